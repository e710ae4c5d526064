/-
  Our own texts, one behind the other: GkJ0 GkP1 GkP2 GkJG GkJH GkJI GkJL GkJK GkJM GkJ6 GkJ7 GkJ9 GkJN GkJE GkJO GkJP GkJQ GkJ1 GkN3 GkJR.
-/
import Derived.Sort.Walk0
import Derived.Shelf.Strings.Repeat
import Derived.Shelf.Strings.Prefix
import Derived.Shelf.Strings.Trim
import Derived.Shelf.Small.Strs
import Derived.Lib.ItoaNum
import Derived.Test.YtakjmidegfgjoaaGreatDoorPtD
set_option linter.defProp false
set_option linter.unusedVariables false
set_option linter.unusedSimpArgs false
open Nat renaming le_of_ble_eq_true→Aca,le_refl→Ack,zero_le→Acu,zero_add→Adw,sub_self→Aeu,add_sub_cancel_left→Afd,pow_le_pow_right→Agd
open List renaming nil_sublist→Acb,length_append→Acd,getElem?_eq_getElem→Acf,length_cons→Acg,append_assoc→Ach,mem_cons_of_mem→Aci,getElem?_eq_some_iff→Acj,length_drop→Acl,eq_nil_of_length_eq_zero→Acm,length_take→Aco,mem_append→Acp,getElem_mem→Acq,mem_cons_self→Acr,length_nil→Acs,drop_eq_getElem_cons→Acv,take_succ_eq_append_getElem→Acx,getElem?_eq_none→Acz,getElem?_take_of_lt→Ada,drop_of_length_le→Adb,mem_singleton→Ade,length_singleton→Adf,mem_of_mem_take→Adg,replicate→Adi,mem_cons→Adj,length_pos_iff→Adk,take_of_length_le→Adm,mem_of_mem_drop→Adn,append_nil→Ado,length_map→Adq,map_cons→Adx,getElem_of_mem→Aea,drop_drop→Aeb,length_replicate→Aef,getElem?_map→Aej,reverse_cons→Ael,take_append_drop→Aem,map_congr_left→Aen,mem_append_left→Aep,dropLast_concat_getLast→Afb,length→Afp,map_append→Afs,set_append_right→Agb,drop_succ_cons→Agk,drop_one→Agm,length_tail→Agp,pairwise_append→Ahd
open Bool renaming and_eq_true→Ace,false_eq_true→Adl
open Int renaming toNat_natCast→Adc,le_refl→Afv
open List.Perm renaming swap→Adz
open Option renaming map_some→Aeh,map_none→Agw
section
namespace Go.Gk.Jsn
open Go Go.Gk Go.Gk.Num
def isD(c:UInt8):Bool:=decide (48≤c.toNat)&& decide (c.toNat≤57)
def dg(c:UInt8):Nat:=c.toNat - 48
def Bl:List UInt8→Nat
 |[]=>0
 |c::s=>if isD c=true then Bl s+1 else 0
structure NT where
 neg:Bool
 w:List UInt8
 f:List UInt8
 x:List UInt8
def FL(s0:List UInt8):Option NT:=
 let neg:=decide (s0.head?=some 45)
 let s:=if neg then s0.tail else s0
 let w:=Bl s
 if w=0∨(1<w∧s.head?=some 48) then none else
 let rest:=s.drop w
 if rest.head?=some 46 then
  let k:=Bl rest.tail
  if k=0 then none else some ⟨neg,s.take w,rest.tail.take k,rest.tail.drop k⟩
 else some ⟨neg,s.take w,[],rest⟩
def ED:List UInt8→Option (Bool×List UInt8)
 |[]=>some (false,[])
 |c::r=>
  if c.toNat≠101∧c.toNat≠69 then none else
  let neg:=decide (r.head?=some 45)
  let r2:=if neg=true∨r.head?=some 43 then r.tail else r
  if Bl r2=0∨Bl r2<r2.length then none else some (neg,r2)
def Gg(s:List UInt8):Nat:=s.foldl (fun e c=>min (e*10+dg c) 1099511627776) 0
def H8(s:List UInt8):Nat:=s.foldl (fun n c=>if n<1000000 then n*10+dg c else n) 0
def sgn(neg:Bool)(n:Nat):Int:=if neg then -(n:Int) else n
def CU:List UInt8→List UInt8
 |c::s=>if c=48 then CU s else c::s
 |[]=>[]
def C6(s:List UInt8):List UInt8:=(CU s.reverse).reverse
def Gr(s:List UInt8):Nat:=s.foldl (fun m c=>m*10+dg c) 0
def DX(s:List UInt8):Int×Int×Int:=
 match FL s with
 |none=>(0,0,10)
 |some t=>
  match ED t.x with
  |none=>(0,0,10)
  |some x=>
   let a:=CU (t.w++t.f)
   let b:=C6 a
   let e:=sgn x.1 (Gg x.2) - t.f.length+a.length - b.length
   if b=[] then(0,0,0) else if 18<b.length then(0,0,11) else
   if e< -64∨64<e then(0,0,11) else(sgn t.neg (Gr b),e,0)
def PF(s:List UInt8):Int×Int×Int:=
 match FL s with
 |none=>(0,0,10)
 |some t=>
  match ED t.x with
  |none=>(0,0,10)
  |some x=>Eh t.neg ((t.w++t.f).map dg) (sgn x.1 (H8 x.2) - t.f.length)
def EJ:∀s,Bl s≤s.length
 |[]=>Ack _
 |c::s=>by
  rw[Bl];split
  ·exact Nat.succ_le_succ (EJ s)
  ·exact Acu _
def Ht:∀(s:List UInt8),∀c∈s.take (Bl s),isD c=true
 |[],c,h=>by simp[Bl] at h
 |a::s,c,h=>by
  rw[Bl] at h;by_cases q:isD a=true
  ·rw[if_pos q,List.take_succ_cons] at h;rcases Adj.1 h with rfl|h
   ·exact q
   ·exact Ht s c h
  ·rw[if_neg q] at h;simp at h
def Io{c:UInt8}(h:isD c=true):dg c<10:=by
 simp only[isD,Ace,decide_eq_true_eq] at h;unfold dg;omega
def IA{c:UInt8}(h:isD c=true):dg c=0↔c=48:=by
 simp only[isD,Ace,decide_eq_true_eq] at h;unfold dg;constructor
 ·intro q;exact UInt8.toNat_inj.1 (by rw[show(48:UInt8).toNat=48 from Z];omega)
 ·intro q;rw[q];rfl
def JT{s}{t:NT}(h:FL s=some t):(∀c∈t.w++t.f,isD c=true)∧t.w.length+t.f.length+t.x.length≤s.length∧0<t.w.length:=by
 unfold FL at h;generalize hb:decide (s.head?=some 45)=neg at h;obtain⟨s',hs'⟩:∃s',(if neg then s.tail else s)=s':=⟨_,Z⟩
 have hl:s'.length≤s.length:=by
  rw[←hs'];split
  ·rw[Agp];omega
  ·exact Ack _
 simp only[hs'] at h;split at h
 ·cases h
 ·rename_i h0;have hr:=EJ s';split at h
  ·rename_i h1;split at h
   ·cases h
   ·rename_i h2;injection h with h
    subst h;refine⟨fun c hc=>?_,?_,?_⟩
    ·rcases Acp.1 hc with q|q
     ·exact Ht _ c q
     ·exact Ht _ c q
    ·have:=EJ (s'.drop (Bl s')).tail;simp only[Aco,Acl,Agp] at this⊢;omega
    ·simp only[Aco];omega
  ·injection h with h
   subst h;refine⟨fun c hc=>?_,?_,?_⟩
   ·rw[Ado] at hc;exact Ht _ c hc
   ·simp only[Aco,Acl,Acs];omega
   ·simp only[Aco];omega
def P8:∀{s},(∀c∈s,isD c=true)→lead (s.map dg)=(CU s).map dg
 |[],_=>rfl
 |c::s,h=>by
  rw[Adx,CU];by_cases q:c=48
  ·rw[if_pos q,show dg c=0 from(IA (h c (Acr ..))).2 q,lead];exact P8 fun x hx=>h x (Aci _ hx)
  ·have:dg c≠0:=fun e=>q ((IA (h c (Acr ..))).1 e);rw[if_neg q,Adx];obtain⟨n,hn⟩:∃n,dg c=n+1:=⟨dg c - 1,by omega⟩
   rw[hn,lead];intro l e;cases e
def G1:∀(s:List UInt8),(CU s).length≤s.length∧∀c∈CU s,c∈s
 |[]=>⟨Ack _,fun c h=>h⟩
 |c::s=>by
  rw[CU];split
  ·have:=G1 s;exact⟨Nat.le_succ_of_le this.1,fun x hx=>Aci _ (this.2 x hx)⟩
  ·exact⟨Ack _,fun x hx=>hx⟩
def UY(s:List UInt8)(c:UInt8):C6 (s++[c])=if c=48 then C6 s else s++[c]:=by
 unfold C6;rw[List.reverse_append,List.reverse_singleton,List.singleton_append,CU];split
 ·rfl
 ·simp
def Js(s:List UInt8):(C6 s).length≤s.length∧∀c∈C6 s,c∈s:=by
 have h:=G1 s.reverse;unfold C6;refine⟨by rw[List.length_reverse];exact Nat.le_trans h.1 (by simp),fun c hc=>?_⟩
 have:=h.2 c (List.mem_reverse.1 hc);exact List.mem_reverse.1 this
def On:∀(n:Nat) {s}{e:Int},s.length=n→(∀c∈s,isD c=true)→DV n (s.map dg) e=((C6 s).map dg,e+(n:Int) - ((C6 s).length:Int))
 |0,s,e,hn,_=>by
  have:s=[]:=Acm hn;subst this;simp[DV,C6,CU]
 |n+1,s,e,hn,hd=>by
  obtain⟨s',c,rfl⟩:∃s' c,s=s'++[c]:=⟨s.dropLast,s.getLast (fun q=>by rw[q] at hn;cases hn),(Afb _).symm⟩
  have hc:=hd c (by simp);have hl:s'.length=n:=by simpa using hn
  rw[DV,UY,Afs,List.map_singleton,List.getLast?_concat,List.dropLast_concat];by_cases q:c=48
  ·rw[if_pos (by rw[(IA hc).2 q]),if_pos q,On n hl (fun x hx=>hd x (Aep _ hx))];congr 1;omega
  ·rw[if_neg (fun h=>q ((IA hc).1 (Option.some.inj h))),if_neg q,Afs,List.map_singleton];congr 1;simp;omega
def Ze(s:List UInt8):val (s.map dg)=Gr s:=by
 unfold val Gr;rw[List.foldl_map]
def Wd:∀(s:List UInt8) (a b:Nat),(∀c∈s,isD c=true)→(a=b∨(1000000≤a∧1000000≤b))→
  (let x:=s.foldl (fun e c=>min (e*10+dg c) 1099511627776) a;let y:=s.foldl (fun n c=>if n<1000000 then n*10+dg c else n) b;x=y∨(1000000≤x∧1000000≤y))
 |[],a,b,_,h=>h
 |c::s,a,b,hd,h=>by
  have hc:=Io (hd c (Acr ..));refine Wd s _ _ (fun x hx=>hd x (Aci _ hx)) ?_;show(min (a*10+dg c) 1099511627776=(if b<1000000 then b*10+dg c else b))∨1000000≤min (a*10+dg c) 1099511627776∧1000000≤(if b<1000000 then b*10+dg c else b);rcases h with rfl|⟨h1,h2⟩
  ·by_cases q:a<1000000
   ·rw[if_pos q];omega
   ·rw[if_neg q];omega
  ·rw[if_neg (Nat.not_lt_of_le h2)];omega
def Sf{s}{x:Bool×List UInt8}(h:ED s=some x):∀c∈x.2,isD c=true:=by
 cases s with
 |nil=>injection h with h;subst h;exact fun c hc=>by cases hc
 |cons c r=>
  rw[ED] at h
  by_cases q:c.toNat≠101∧c.toNat≠69
  ·rw[if_pos q] at h;cases h
  ·rw[if_neg q] at h
   simp only at h
   generalize (if decide (r.head?=some 45)=true∨r.head?=some 43 then r.tail else r)=r2 at*
   by_cases h0:Bl r2=0∨Bl r2<r2.length
   ·rw[if_pos h0] at h;cases h
   ·rw[if_neg h0] at h
    injection h with h
    subst h
    intro c hc
    have hle:=EJ r2
    have:Bl r2=r2.length:=by omega
    have h1:=Ht r2 c
    rw[this,List.take_length] at h1
    exact h1 hc
def AaR{s}(hs:s.length≤900000):DX s=PF s:=by
 unfold DX PF;cases h:FL s with
 |none=>rfl
 |some t=>
  simp only
  cases h2:ED t.x with
  |none=>rfl
  |some x=>
   simp only
   obtain⟨hd,hl,_⟩:=JT h
   have hx:=Sf h2
   have hc:=Wd x.2 0 0 hx (.inl Z)
   simp only at hc
   have e1:x.2.foldl (fun e c=>min (e*10+dg c) 1099511627776) 0=Gg x.2:=Z
   have e2:x.2.foldl (fun n c=>if n<1000000 then n*10+dg c else n) 0=H8 x.2:=Z
   rw[e1,e2] at hc
   have hlen:=G1 (t.w++t.f)
   have hda:∀c∈CU (t.w++t.f),isD c=true:=fun c hc=>hd c (hlen.2 c hc)
   unfold Eh
   rw[P8 hd]
   simp only[Adq]
   rw[On _ Z hda]
   simp only[Acd] at hlen
   generalize CU (t.w++t.f)=a at*
   have hb:=Js a
   generalize C6 a=b at*
   simp only[List.map_eq_nil_iff,Adq,Ze]
   by_cases hb0:b=[]
   ·rw[if_pos hb0,if_pos hb0]
   ·rw[if_neg hb0,if_neg hb0]
    rcases hc with hc|⟨h3,h4⟩
    ·rw[hc]
     have e3:sgn x.1 (H8 x.2) - (t.f.length:Int)+(a.length:Int) - (b.length:Int)=sgn x.1 (H8 x.2) - (t.f.length:Int)+(a.length:Int) - (b.length:Int):=Z
     by_cases h18:18<b.length
     ·rw[if_pos h18,if_pos (.inl h18)]
     ·rw[if_neg h18]
      by_cases h64:sgn x.1 (H8 x.2) - (t.f.length:Int)+(a.length:Int) - (b.length:Int)< -64∨64<sgn x.1 (H8 x.2) - (t.f.length:Int)+(a.length:Int) - (b.length:Int)
      ·rw[if_pos h64,if_pos (.inr h64)]
      ·rw[if_neg h64,if_neg (fun q=>q.elim h18 h64)]
       rfl
    ·have f1:∀n:Nat,1000000≤n→sgn x.1 n - (t.f.length:Int)+(a.length:Int) - (b.length:Int)< -64∨64<sgn x.1 n - (t.f.length:Int)+(a.length:Int) - (b.length:Int):=fun n hn=>by
      unfold sgn;cases x.1
      ·simp only[Adl,if_false];omega
      ·simp only[if_true];omega
     by_cases h18:18<b.length
     ·rw[if_pos h18,if_pos (.inl h18)]
     ·rw[if_neg h18,if_pos (f1 _ h3),if_pos (.inr (f1 _ h4))]
end Go.Gk.Jsn
end
section
namespace Go.Gk.Val
open Go Go.Gk Go.Gk.Utf
variable{l:List V}
abbrev Ms:=List (List UInt8×Int×Nat)
def CC(ms:Ms):List (List UInt8):=ms.map (·.1)
def Fp(ms:Ms):(CC ms).length=ms.length:=Adq ..
def F5{k}{p:List UInt8×Int×Nat}{ms:Ms}:k∈CC (p::ms)↔k=p.1∨k∈CC ms:=Adj
def get_put(k k':List UInt8)(v:Int)(c:Nat):∀ms:Ms,FD k' (EW k v c ms)=if k'=k then some v else FD k' ms
 |[]=>by simp[EW,FD]
 |p::ms=>by
  rw[EW];by_cases h:k=p.1
  ·rw[if_pos h,FD,FD];subst h;by_cases h2:k'=p.1
   ·simp[h2]
   ·simp[h2]
  ·rw[if_neg h,FD,FD,get_put k k' v c ms];by_cases h2:k'=p.1
   ·rw[if_pos h2,if_pos h2,if_neg];intro e;exact h (e.symm.trans h2)
   ·rw[if_neg h2,if_neg h2]
def get_some(k:List UInt8):∀ms:Ms,(FD k ms).isSome=true↔k∈CC ms
 |[]=>by simp[FD,CC]
 |p::ms=>by
  have ih:=get_some k ms;rw[FD,F5];by_cases h:k=p.1
  ·simp[h]
  ·rw[if_neg h,ih];simp[h]
def GR(k:List UInt8)(v:Int)(c:Nat):∀ms:Ms,CC (EW k v c ms)=if k∈CC ms then CC ms else CC ms++[k]
 |[]=>by simp[EW,CC]
 |p::ms=>by
  have ih:=GR k v c ms;rw[EW];by_cases h:k=p.1
  ·rw[if_pos h,if_pos (F5.2 (.inl h))];rfl
  ·rw[if_neg h];show p.1::CC (EW k v c ms)=_;rw[ih];by_cases e:k∈CC ms
   ·rw[if_pos e,if_pos (F5.2 (.inr e))];rfl
   ·rw[if_neg e,if_neg (fun q=>(F5.1 q).elim h e)];rfl
def Rk(k:List UInt8)(v:Int)(c:Nat):∀ms:Ms,(EW k v c ms).map (·.2.2)=if k∈CC ms then ms.map (·.2.2) else ms.map (·.2.2)++[c]
 |[]=>by simp[EW,CC]
 |p::ms=>by
  have ih:=Rk k v c ms;rw[EW];by_cases h:k=p.1
  ·rw[if_pos h,if_pos (F5.2 (.inl h))];rfl
  ·rw[if_neg h];show p.2.2::(EW k v c ms).map (·.2.2)=_;rw[ih];by_cases e:k∈CC ms
   ·rw[if_pos e,if_pos (F5.2 (.inr e))];rfl
   ·rw[if_neg e,if_neg (fun q=>(F5.1 q).elim h e)];rfl
def msN(ks:List (List UInt8)):Nat→Ms
 |0=>[]
 |n+1=>EW (ks.getD n []) (n:Int) (msN ks n).length (msN ks n)
def ZV(k:List UInt8)(v:Int)(ms:Ms):Pl k ms.length ms=(EW k v ms.length ms).length:=by
 have h1:=congrArg Afp (GR k v ms.length ms);rw[Fp] at h1;rw[h1,Pl];by_cases h:k∈CC ms
 ·rw[if_pos ((get_some k ms).2 h),if_pos h,Fp]
 ·rw[if_neg (fun e=>h ((get_some k ms).1 e)),if_neg h,Acd,Fp];rfl
def Mx(ks:List (List UInt8)):∀n,(msN ks n).map (·.2.2)=List.range (msN ks n).length
 |0=>rfl
 |n+1=>by
  have ih:=Mx ks n;have hl:=congrArg Afp (GR (ks.getD n []) (n:Int) (msN ks n).length (msN ks n));rw[Fp] at hl;rw[msN,Rk,hl,ih];by_cases e:ks.getD n []∈CC (msN ks n)
  ·rw[if_pos e,if_pos e,Fp]
  ·rw[if_neg e,if_neg e,Acd,Fp];exact List.range_succ.symm
def Abg{ks}{n:Nat}:∀p∈msN ks n,p.2.2<(msN ks n).length:=fun p hp=>by
 have:p.2.2∈(msN ks n).map (·.2.2):=List.mem_map_of_mem hp;rw[Mx] at this;exact List.mem_range.1 this
def Nz(ks:List (List UInt8)):∀n,(CC (msN ks n)).Nodup
 |0=>List.nodup_nil
 |n+1=>by
  have ih:=Nz ks n;rw[msN,GR];split
  ·exact ih
  ·rename_i h;rw[List.nodup_append];exact⟨ih,by simp,fun a ha b hb=>by simp at hb;subst hb;intro e;subst e;exact h ha⟩
def RS{ks}:∀{n:Nat}{k}{i:Int},FD k (msN ks n)=some i→0≤i∧i<n
 |0,k,i,h=>by cases h
 |n+1,k,i,h=>by
  rw[msN,get_put] at h;split at h
  ·cases h;omega
  ·have:=RS h;omega
def plK(ms:Ms)(k:List UInt8):Nat:=((FD k ms).getD 0).toNat
def I5{ks:List (List UInt8)}{l:List V}(hu:∀k∈ks,u8 k=true):∀n,n≤ks.length→
  rising (BO ks l n).1=true∧(∀k,k∈(BO ks l n).1↔k∈CC (msN ks n))∧(BO ks l n).2=(BO ks l n).1.map fun k=>l.getD (plK (msN ks n) k) V.zero
 |0,_=>⟨DW.2 ⟨fun k hk=>by simp[BO] at hk,by simp[BO,OQ]⟩,fun k=>by simp[BO,msN,CC],Z⟩
 |n+1,hn=>by
  obtain⟨h1,h2,h3⟩:=I5 (l:=l) hu n (by omega);have hlen:=(FA ks l n).1;have hk:u8 (ks.getD n [])=true:=by
   rw[show ks.getD n []=ks[n] by simp[show n<ks.length by omega]];exact hu _ (Acq _)
  rw[BO,msN];generalize ks.getD n []=k at*;generalize BO ks l n=o at*;generalize msN ks n=ms at*;have hpl:∀k',plK (EW k (n:Int) ms.length ms) k'=if k'=k then n else plK ms k':=fun k'=>by
   rw[plK,get_put,plK];by_cases e:k'=k
   ·simp[e]
   ·simp[e]
  have hlow:=Fi o.1 k;by_cases hm:k∈o.1
  ·obtain⟨hi,he⟩:=(mem_iff h1).1 hm;have hio:o.1[AT o.1 k]?=some k:=by rw[Acf hi,he]
   rw[Dx,if_pos hio];refine⟨h1,fun k'=>?_,?_⟩
   ·rw[GR,if_pos ((h2 k).1 hm)];exact h2 k'
   ·have hnd:=Kp (DW.1 h1).2;apply List.ext_getElem
    ·simp[hlen]
    ·intro i q1 q2;have q3:i<o.1.length:=by simpa using q2
     rw[List.getElem_set,List.getElem_map,hpl];by_cases e:AT o.1 k=i
     ·subst e;rw[if_pos Z,if_pos he]
     ·rw[if_neg e,if_neg (fun e2=>e (by
       have e3:o.1[AT o.1 k]=o.1[i]:=he.trans (Eq.symm e2);exact(List.getElem_inj hnd).1 e3))]
      simp[h3]
  ·have hio:¬o.1[AT o.1 k]?=some k:=fun e=>hm (List.mem_of_getElem? e);have hnk:k∉CC ms:=fun e=>hm ((h2 k).2 e);rw[Dx,if_neg hio];have hset:(o.2.take (AT o.1 k)++[l.getD n V.zero]++o.2.drop (AT o.1 k)).set (AT o.1 k) (l.getD n V.zero)=o.2.take (AT o.1 k)++[l.getD n V.zero]++o.2.drop (AT o.1 k):=by
    have:(o.2.take (AT o.1 k)).length=AT o.1 k:=by simp;omega
    rw[Ach,Agb _ _ (by omega),this,Aeu];rfl
   refine⟨?_,fun k'=>?_,?_⟩
   ·rw[DW] at h1⊢;refine⟨fun x hx=>?_,?_⟩
    ·simp only[Acp,Ade] at hx;rcases hx with (hx|rfl)|hx
     ·exact h1.1 x (Adg hx)
     ·exact hk
     ·exact h1.1 x (Adn hx)
    ·have hr:=DW.2 h1;have hle:∀x∈o.1.take (AT o.1 k),Op.bytesLess x k=true:=fun x hx=>by
      obtain⟨i,hi,rfl⟩:=Aea hx;have hi2:i<AT o.1 k∧i<o.1.length:=by simp at hi;omega
      rw[List.getElem_take];exact(Hw hr k i hi2.2).2 hi2.1
     have hge:∀x∈o.1.drop (AT o.1 k),Op.bytesLess k x=true:=fun x hx=>by
      obtain⟨i,hi,rfl⟩:=Aea hx;have hi2:AT o.1 k+i<o.1.length:=by simp at hi;omega
      rw[List.getElem_drop];rcases Nr k o.1[AT o.1 k+i] with q|q|q
      ·exact q
      ·exact absurd (q▸Acq hi2) hm
      ·have:=(Hw hr k _ hi2).1 q;omega
     show List.Pairwise _ _;rw[Ahd,Ahd];refine⟨⟨h1.2.sublist (List.take_sublist _ _),by simp,fun a ha b hb=>?_⟩,h1.2.sublist (List.drop_sublist _ _),fun a ha b hb=>?_⟩
     ·simp at hb;subst hb;exact hle a ha
     ·simp only[Acp,Ade] at ha;rcases ha with ha|rfl
      ·exact IQ (hle a ha) (hge b hb)
      ·exact hge b hb
   ·rw[GR,if_neg hnk];simp only[Acp,Ade];have:k'∈o.1↔k'∈o.1.take (AT o.1 k)∨k'∈o.1.drop (AT o.1 k):=by
     rw[←Acp,Aem]
    rw[←h2,this];constructor
    ·rintro((h|h)|h)
     ·exact .inl (.inl h)
     ·exact .inr h
     ·exact .inl (.inr h)
    ·rintro((h|h)|h)
     ·exact .inl (.inl h)
     ·exact .inr h
     ·exact .inl (.inr h)
   ·rw[hset,Afs,Afs,List.map_singleton,hpl,if_pos Z];have hout:∀x∈o.1,l.getD (plK (EW k (n:Int) ms.length ms) x) V.zero=l.getD (plK ms x) V.zero:=fun x hx=>by
     rw[hpl,if_neg (show x≠k from fun e=>hm (by rw[←e];exact hx))]
    rw[Aen (fun x hx=>hout x (Adg hx)),Aen (l:=o.1.drop _) (fun x hx=>hout x (Adn hx)),List.map_take,List.map_drop,←h3]
def Vu{ks:List (List UInt8)}{l:List V}(hu:∀k∈ks,u8 k=true){p:List (List UInt8)}(hp:p.Perm (CC (msN ks ks.length))):
  (p.mergeSort fun x y=>decide (x≤y))=(BO ks l ks.length).1:=by
 obtain⟨h1,h2,_⟩:=I5 (l:=l) hu ks.length (Ack _)
 have hr:=(DW.1 h1).2
 refine List.Perm.eq_of_pairwise (le:=fun x y=>x≤y) (fun a b _ _ h k=>List.le_antisymm h k) ?_ (hr.imp fun{a b} h=>?_) ((List.mergeSort_perm _ _).trans (hp.trans ((List.perm_ext_iff_of_nodup (Nz ks _) (Kp hr)).2 fun k=>(h2 k).symm)))
 ·have:=List.pairwise_mergeSort (le:=fun x y:List UInt8=>decide (x≤y)) (fun a b c h k=>by simp at h k⊢;exact List.le_trans h k) (fun a b=>by simp;exact List.le_total a b) p
  exact this.imp fun h=>of_decide_eq_true h
 ·rw[Go.Proofs.bytesLess_eq] at h
  exact List.le_of_lt (of_decide_eq_true h)
def HT:List V→Int
 |[]=>0
 |x::l=>if Bf x≠0 then Bf x else HT l
def FE(ks:List (List UInt8))(l:List V):V:=.mk 6 0 0 [] (BO ks l ks.length).2 (BO ks l ks.length).1
def Dk(ks:List (List UInt8))(l:List V):V×Int:=
 if ks.length≠l.length then(V.zero,2) else if ks.all u8=false then(V.zero,30) else if HT l≠0 then(V.zero,HT l)
 else if 48<Bj (FE ks l) then(V.zero,31) else(FE ks l,0)
def Iq:∀{l:List V},HT l=0↔∀x∈l,Bf x=0
 |[]=>by simp[HT]
 |x::l=>by
  rw[HT];by_cases h:Bf x≠0
  ·rw[if_pos h];simp only[Adj,forall_eq_or_imp];exact⟨fun e=>absurd e h,fun e=>absurd e.1 h⟩
  ·rw[if_neg h,Iq];have:Bf x=0:=by simpa using h
   simp[this]
def Rl{i:Nat}(hi:i<l.length)(h0:∀j (hj:j<i),Bf (l[j]'(by omega))=0)(h:Bf l[i]≠0):HT l=Bf l[i]:=by
 induction l generalizing i with
 |nil=>exact absurd hi (Nat.not_lt_zero _)
 |cons x l ih=>
  rw[HT]
  cases i with
  |zero=>rw[if_pos (by simpa using h)];rfl
  |succ i=>
   have hx:=h0 0 (by omega)
   rw[if_neg (by simpa using hx)]
   exact ih (by simpa using hi) (fun j hj=>by have:=h0 (j+1) (by omega);simpa using this) (by simpa using h)
def ND{ks}(hu:∀k∈ks,u8 k=true)(hl:ks.length=l.length){x:V}(hx:x∈(BO ks l ks.length).2):x∈l:=by
 obtain⟨h1,h2,h3⟩:=I5 (l:=l) hu ks.length (Ack _);rw[h3] at hx;obtain⟨k,hk,rfl⟩:=List.mem_map.1 hx;have:=(get_some k _).2 ((h2 k).1 hk);obtain⟨i,hi⟩:=Option.isSome_iff_exists.1 this;have hb:=RS hi;rw[plK,hi];simp only[Option.getD_some];have:i.toNat<l.length:=by omega
 simp[this]
def RI{ks}(hu:∀k∈ks,u8 k=true)(hl:ks.length=l.length)(hr:∀x∈l,Bf x=0):Cf (FE ks l)=true:=by
 obtain⟨h1,h2,h3⟩:=I5 (l:=l) hu ks.length (Ack _);exact PH h1 (FA ks l _).1 fun x hx=>(EZ.1 (hr x (ND hu hl hx))).1
def Uc{ks}(hu:∀k∈ks,u8 k=true)(hl:ks.length=l.length)(hr:∀x∈l,Bf x=0):Bf (FE ks l)=if 48<Bj (FE ks l) then 31 else 0:=by
 rw[Bf,RI hu hl hr];by_cases h:Bj (FE ks l)≤48
 ·rw[if_pos h,if_pos Z,if_neg (by omega)]
 ·rw[if_neg h,if_pos (by omega)]
def NP{ks}(hu:∀k∈ks,u8 k=true)(hl:ks.length=l.length)(hr:∀x∈l,Bf x=0):Bj (FE ks l)≤49:=
 Gi fun x hx=>(EZ.1 (hr x (ND hu hl hx))).2
def Ii(ks:List (List UInt8))(k:List UInt8):Nat→Int
 |0=> -1
 |n+1=>if ks.getD n []=k then(n:Int) else Ii ks k n
def Ru(ks:List (List UInt8))(k:List UInt8):∀n,FD k (msN ks n)=if Ii ks k n<0 then none else some (Ii ks k n)
 |0=>by simp[msN,FD,Ii]
 |n+1=>by
  rw[msN,get_put,Ii];by_cases h:k=ks.getD n []
  ·rw[if_pos h,if_pos h.symm,if_neg (by omega)]
  ·rw[if_neg h,if_neg (Ne.symm h),Ru ks k n]
def Wx(ks:List (List UInt8))(k:List UInt8):∀n,n≤ks.length→(k∈CC (msN ks n)↔k∈ks.take n)
 |0,_=>by simp[msN,CC]
 |n+1,hn=>by
  have hg:ks.getD n []=ks[n]:=by simp[show n<ks.length by omega]
  rw[msN,GR,Acx (by omega),Acp,Ade,←Wx ks k n (by omega),hg];by_cases h:ks[n]∈CC (msN ks n)
  ·rw[if_pos h];exact⟨.inl,fun e=>e.elim id (fun e=>by rw[e];exact h)⟩
  ·rw[if_neg h,Acp,Ade]
def Tc(a:List (List UInt8))(k:List UInt8):∀n,Ii a k n<n
 |0=>by simp[Ii]
 |n+1=>by
  have:=Tc a k n;rw[Ii];split<;>omega
end Go.Gk.Val
end
section
namespace Go.Gk.Jsn
open Go Go.Gk Go.Gk.Val
variable{s:List UInt8}
structure Tk where
 sign:Nat
 v:V
 at_:Nat
 too:Nat
 e:Int
def Cu(c:UInt8):Bool:=decide (c=32∨c=9∨c=10∨c=13)
def Cc(c:UInt8):Bool:=decide (97≤c.toNat∧c.toNat≤122)
def CY(c:UInt8):Bool:=decide (c∈([48,49,50,51,52,53,54,55,56,57,43,45,46,101,69]:List UInt8))
def E9(c:UInt8):Bool:=decide (c∈([123,125,91,93,58,44]:List UInt8))
def BD(p:UInt8→Bool):List UInt8→Nat
 |[]=>0
 |c::s=>if p c=true then BD p s+1 else 0
def D5(p:UInt8→Bool):∀s,BD p s≤s.length
 |[]=>Ack _
 |c::s=>by
  rw[BD];split
  ·exact Nat.succ_le_succ (D5 p s)
  ·exact Acu _
def Iy(p:UInt8→Bool):∀(s:List UInt8) (k:Nat),k≤BD p s→BD p s=k+BD p (s.drop k)
 |s,0,_=>by simp
 |[],k+1,h=>by simp[BD] at h
 |c::s,k+1,h=>by
  rw[BD] at h⊢;by_cases q:p c=true
  ·rw[if_pos q] at h⊢;have:=Iy p s k (by omega);rw[Agk];omega
  ·rw[if_neg q] at h;omega
def Hh(t:List UInt8):Option Int:=if t=[110,117,108,108] then some 0 else if t=[102,97,108,115,101] then some 1 else if t=[116,114,117,101] then some 2 else none
def MP(k:Int):V:=.mk k 0 0 [] [] []
def MF(t:List UInt8):V:=.mk 4 0 0 t [] []
def MC(m e:Int):V:=.mk 3 m e [] [] []
def C2:List UInt8→Nat×V×Nat×Int
 |[]=>(255,V.zero,0,0)
 |c::s=>
  if E9 c=true then(c.toNat,V.zero,1,0) else
  if c=34 then(0,MF (Ck (c::s)).1,(Ck (c::s)).2.1.toNat,(Ck (c::s)).2.2) else
  if Cc c=true then(match Hh ((c::s).take (BD Cc (c::s))) with
   |some k=>(0,MP k,BD Cc (c::s),0)
   |none=>(0,V.zero,0,60)) else
  if c=45∨isD c=true then(0,MC (DX ((c::s).take (BD CY (c::s)))).1 (DX ((c::s).take (BD CY (c::s)))).2.1,BD CY (c::s),(DX ((c::s).take (BD CY (c::s)))).2.2) else
  (0,V.zero,0,60)
def Ce(s:List UInt8)(at_:Nat):Tk:=
 let p:=at_+BD Cu (s.drop at_)
 let t:=C2 (s.drop p)
 ⟨t.1,t.2.1,p,p+t.2.2.1,t.2.2.2⟩
def Tk.on(t:Tk):Bool:=decide (t.e=0∧t.sign≠255)
def Fw:Nat→List UInt8→Nat→List Tk
 |0,_,_=>[]
 |f+1,s,p=>Ce s p::if (Ce s p).on=true then Fw f s (Ce s p).too else []
def Dh(s:List UInt8)(p:Nat):List Tk:=Fw (s.length+1 - p) s p
def Y5{p:UInt8→Bool}{c:UInt8}(h:p c=true):0<BD p (c::s):=by rw[BD,if_pos h];exact Nat.succ_pos _
def X1(h:(DX s).2.2=0):s≠[]:=by
 intro q;subst q;exact absurd h (by decide)
def Rx:∀(f:Nat) (s out:List UInt8) (n:Nat),(DD f s out n).2.2=0→((n+1:Nat):Int)≤(DD f s out n).2.1
 |0,_,_,_,h=>absurd h (by simp[DD])
 |f+1,s,out,n,h=>by
  rw[DD] at h⊢;by_cases h1:s=[]
  ·rw[if_pos h1] at h;exact absurd h (by decide)
  rw[if_neg h1] at h⊢;by_cases h2:s.head?=some 34
  ·rw[if_pos h2];exact Afv _
  rw[if_neg h2] at h⊢;by_cases h3:(pcP s).2=0
  ·rw[if_pos h3] at h;exact absurd h (by decide)
  rw[if_neg h3] at h⊢;have:=Rx f _ _ _ h;omega
def XL(h:(Ck s).2.2=0):2≤(Ck s).2.1:=by
 unfold Ck at h⊢;split
 ·rename_i q;rw[if_pos q] at h;exact Rx _ _ _ 1 h
 ·rename_i q;rw[if_neg q] at h;exact absurd h (by decide)
def Jo(s:List UInt8):0≤(Ck s).2.1∧(Ck s).2.1≤s.length:=by
 unfold Ck;split
 ·rename_i q;have:=OC s.tail.length s.tail [] 1;have hl:0<s.length:=by cases s with|nil=>cases q|cons=>simp
  refine⟨this.1,Int.le_trans this.2 ?_⟩
  rw[Agp];omega
 ·exact⟨Afv _,by simp⟩
def Zq(s:List UInt8):(C2 s).2.2.1≤s.length:=by
 cases s with
 |nil=>exact Ack _
 |cons c s=>
  rw[C2]
  have h1:=D5 Cc (c::s)
  have h2:=D5 CY (c::s)
  have h3:=Jo (c::s)
  repeat' split
  all_goals (simp only;first|omega|simp)
def one_pos(h1:(C2 s).1≠255)(h2:(C2 s).2.2.2=0):0<(C2 s).2.2.1:=by
 cases s with
 |nil=>exact absurd Z h1
 |cons c s=>
  rw[C2] at h1 h2⊢
  by_cases q1:E9 c=true
  ·rw[if_pos q1];exact Nat.one_pos
  rw[if_neg q1] at h2⊢
  by_cases q2:c=34
  ·rw[if_pos q2] at h2⊢
   have:=XL h2
   simp only;omega
  rw[if_neg q2] at h2⊢
  by_cases q3:Cc c=true
  ·rw[if_pos q3] at h2⊢
   cases hw:Hh ((c::s).take (BD Cc (c::s))) with
   |some k=>rw[hw] at h2;exact Y5 q3
   |none=>rw[hw] at h2;simp at h2
  rw[if_neg q3] at h2⊢
  by_cases q4:c=45∨isD c=true
  ·rw[if_pos q4] at h2⊢
   have:=X1 h2
   simp only
   rcases Nat.eq_zero_or_pos (BD CY (c::s)) with h|h
   ·rw[h] at this;exact absurd Z this
   ·exact h
  ·rw[if_neg q4] at h2;exact absurd h2 (by decide)
def TQ{c:UInt8}(h:E9 c=true):c.toNat≠255∧c.toNat≠0:=by
 simp only[E9,decide_eq_true_eq] at h;simp at h;rcases h with rfl|rfl|rfl|rfl|rfl|rfl<;>decide
def ZU:(C2 s).1=255↔s=[]:=by
 cases s with
 |nil=>exact⟨fun _=>Z,fun _=>Z⟩
 |cons c s=>
  refine⟨fun h=>?_,fun h=>by cases h⟩
  rw[C2] at h
  by_cases q1:E9 c=true
  ·rw[if_pos q1] at h;exact absurd h (TQ q1).1
  rw[if_neg q1] at h
  repeat' split at h
  all_goals (exact absurd h (by simp))
def Hy{p:Nat}(hp:p≤s.length):p≤(Ce s p).at_∧(Ce s p).at_≤(Ce s p).too∧(Ce s p).too≤s.length∧((Ce s p).on=true→p<(Ce s p).too):=by
 have h1:=D5 Cu (s.drop p);rw[Acl] at h1;have h2:=Zq (s.drop (p+BD Cu (s.drop p)));rw[Acl] at h2;have h3:= @one_pos (s.drop (p+BD Cu (s.drop p)))
 unfold Ce Tk.on;simp only[decide_eq_true_eq];refine⟨by omega,by omega,by omega,fun h=>?_⟩
 have:=h3 h.2 h.1;omega
def Om:∀(f g:Nat) (s:List UInt8) (p:Nat),p≤s.length→s.length<f+p→s.length<g+p→Fw f s p=Fw g s p
 |0,_,s,p,h,h1,_=>by omega
 |f+1,0,s,p,h,_,h1=>by omega
 |f+1,g+1,s,p,h,h1,h2=>by
  rw[Fw,Fw];have:=Hy h;by_cases q:(Ce s p).on=true
  ·rw[if_pos q,if_pos q];have:=this.2.2.2 q;rw[Om f g s _ (by omega) (by omega) (by omega)]
  ·rw[if_neg q,if_neg q]
def G2{p:Nat}(hp:p≤s.length):Dh s p=Ce s p::if (Ce s p).on=true then Dh s (Ce s p).too else []:=by
 rw[Dh,show s.length+1 - p=(s.length - p)+1 by omega,Fw];have:=Hy hp;by_cases q:(Ce s p).on=true
 ·have h:=this.2.2.2 q;rw[if_pos q,if_pos q,Dh];congr 1;exact Om _ _ _ _ (by omega) (by omega) (by omega)
 ·rw[if_neg q,if_neg q]
def Qg:∀(f:Nat) (s out:List UInt8) (n:Nat),out.length≤4*n→((DD f s out n).1.length:Int)≤4*(DD f s out n).2.1
 |0,_,_,_,_=>by simp[DD]
 |f+1,s,out,n,h=>by
  rw[DD];by_cases h1:s=[]
  ·rw[if_pos h1];simp
  rw[if_neg h1];by_cases h2:s.head?=some 34
  ·rw[if_pos h2];simp only;omega
  rw[if_neg h2];by_cases h3:(pcP s).2=0
  ·rw[if_pos h3];simp
  rw[if_neg h3];have hp:=(RW s).2;exact Qg f _ _ _ (by rw[Acd];omega)
def Vc(s:List UInt8):((Ck s).1.length:Int)≤4*(Ck s).2.1:=by
 unfold Ck;split
 ·exact Qg _ _ _ _ (by simp)
 ·simp
def Pg(s:List UInt8):(C2 s).2.1.text.length≤4*(C2 s).2.2.1∧(C2 s).2.1.list=[]∧(C2 s).2.1.keys=[]:=by
 cases s with
 |nil=>exact⟨Ack _,Z,Z⟩
 |cons c s=>
  rw[C2]
  have h3:=Vc (c::s)
  have h4:=Jo (c::s)
  repeat' split
  all_goals (first|exact⟨Acu _,Z,Z⟩|(refine⟨?_,Z,Z⟩;show(Ck (c::s)).1.length≤_;simp only;omega))
abbrev RV:=Except Int (V×List Tk)
def Fx(named:Bool)(ks:List (List UInt8))(l:List V):V:=if named=true then(Dk ks l).1 else .mk 5 0 0 [] l []
def Dl(named:Bool):Nat:=if named=true then 125 else 93
mutual
def DH:Nat→Nat→List Tk→Option RV
 |0,_,_=>none
 |f+1,_,[]=>none
 |f+1,k,t::r=>
  if t.e≠0 then some (.error t.e) else if t.sign≠0∧t.sign≠91∧t.sign≠123 then some (.error 60) else
  if k=48 then some (.error 31) else if t.sign=0 then some (.ok (t.v,r)) else CA f k (decide (t.sign=123)) true [] [] r
def CA:Nat→Nat→Bool→Bool→List (List UInt8)→List V→List Tk→Option RV
 |0,_,_,_,_,_,_=>none
 |f+1,_,_,_,_,_,[]=>none
 |f+1,k,nm,first,ks,l,t::r=>
  if t.e=0∧t.sign=Dl nm then some (.ok (Fx nm ks l,r)) else if first=true then Dj f k nm ks l (t::r) else
  if t.e≠0 then some (.error t.e) else if t.sign≠44 then some (.error 60) else Dj f k nm ks l r
def Dj:Nat→Nat→Bool→List (List UInt8)→List V→List Tk→Option RV
 |0,_,_,_,_,_=>none
 |f+1,k,false,ks,l,ts=>match DH f (k+1) ts with
  |none=>none
  |some (.error e)=>some (.error e)
  |some (.ok x)=>CA f k false false ks (l++[x.1]) x.2
 |f+1,k,true,ks,l,ts=>match ts with
  |[]=>none
  |t::r=>if t.e≠0 then some (.error t.e) else if t.sign≠0∨t.v.kind≠4 then some (.error 60) else match r with
   |[]=>none
   |c::r2=>if c.e≠0 then some (.error c.e) else if c.sign≠58 then some (.error 60) else match DH f (k+1) r2 with
    |none=>none
    |some (.error e)=>some (.error e)
    |some (.ok x)=>CA f k true false (ks++[t.v.text]) (l++[x.1]) x.2
end
def I2(f:Nat)(ts:List Tk):Option (Except Int V):=match DH f 0 ts with
 |none=>none
 |some (.error e)=>some (.error e)
 |some (.ok x)=>match x.2 with
  |[]=>none
  |t::_=>if t.e≠0 then some (.error t.e) else if t.sign≠255 then some (.error 60) else some (.ok x.1)
structure Opn where
 nm:Bool
 ks:List (List UInt8)
 l:List V
inductive Ma where
 |begin_ (st:List Opn) (ts:List Tk)
 |pair (o:Opn) (st:List Opn) (ts:List Tk)
 |behind (st:List Opn) (v:V) (ts:List Tk)
 |shut (o:Opn) (st:List Opn) (ts:List Tk)
def BB:Ma→Option (Ma ⊕ Except Int V)
 |.begin_ st []=>none
 |.begin_ st (t::r)=>
  if t.e≠0 then some (.inr (.error t.e)) else if t.sign≠0∧t.sign≠91∧t.sign≠123 then some (.inr (.error 60)) else
  if st.length=48 then some (.inr (.error 31)) else if t.sign=0 then some (.inl (.behind st t.v r)) else
  match r with
  |[]=>none
  |t2::_=>if t2.e=0∧t2.sign=Dl (decide (t.sign=123)) then some (.inl (.shut ⟨decide (t.sign=123),[],[]⟩ st r)) else
   if t.sign=91 then some (.inl (.begin_ (⟨false,[],[]⟩::st) r)) else some (.inl (.pair ⟨true,[],[]⟩ st r))
 |.pair o st ts=>match ts with
  |[]=>none
  |t::r=>if t.e≠0 then some (.inr (.error t.e)) else if t.sign≠0∨t.v.kind≠4 then some (.inr (.error 60)) else match r with
   |[]=>none
   |c::r2=>if c.e≠0 then some (.inr (.error c.e)) else if c.sign≠58 then some (.inr (.error 60)) else some (.inl (.begin_ (⟨o.nm,o.ks++[t.v.text],o.l⟩::st) r2))
 |.behind [] v ts=>match ts with
  |[]=>none
  |t::_=>if t.e≠0 then some (.inr (.error t.e)) else if t.sign≠255 then some (.inr (.error 60)) else some (.inr (.ok v))
 |.behind (o::st) v ts=>match ts with
  |[]=>none
  |t::r=>if t.e≠0 then some (.inr (.error t.e)) else
   if t.sign=44 then(if o.nm=false then some (.inl (.begin_ (⟨o.nm,o.ks,o.l++[v]⟩::st) r)) else some (.inl (.pair ⟨o.nm,o.ks,o.l++[v]⟩ st r))) else
   if t.sign=Dl o.nm then some (.inl (.shut ⟨o.nm,o.ks,o.l++[v]⟩ st (t::r))) else some (.inr (.error 60))
 |.shut o st ts=>match ts with
  |[]=>none
  |_::r=>some (.inl (.behind st (Fx o.nm o.ks o.l) r))
def runM:Nat→Ma→Option (Except Int V)
 |0,_=>none
 |f+1,m=>match BB m with
  |none=>none
  |some (.inr r)=>some r
  |some (.inl m')=>runM f m'
def goes(m:Ma)(x:RV)(st:List Opn)(R:Except Int V):Prop:=match x with
 |.error e=>R=.error e→∃f,runM f m=some R
 |.ok y=>(∃f,runM f (.behind st y.1 y.2)=some R)→∃f,runM f m=some R
def DU{m m':Ma}{R:Except Int V}(hs:BB m=some (.inl m'))(h:∃f,runM f m'=some R):∃f,runM f m=some R:=by
 obtain⟨f,hf⟩:=h;exact⟨f+1,by rw[runM,hs];exact hf⟩
def Mm{m:Ma}{R:Except Int V}(hs:BB m=some (.inr R)):∃f,runM f m=some R:=⟨1,by rw[runM,hs]⟩
def Gv{m:Ma}{e:Int}{R:Except Int V}(hs:BB m=some (.inr (.error e)))(h:R=.error e):∃f,runM f m=some R:=by subst h;exact Mm hs
def IY(nm:Bool)(ks:List (List UInt8))(l:List V)(st:List Opn)(ts:List Tk):Ma:=if nm=true then .pair ⟨nm,ks,l⟩ st ts else .begin_ (⟨nm,ks,l⟩::st) ts
mutual
def PA:∀(f k:Nat) (ts:List Tk) (x:RV),DH f k ts=some x→∀st:List Opn,st.length=k→∀R,goes (.begin_ st ts) x st R
 |0,_,_,_,h,_,_,_=>by cases h
 |f+1,_,[],_,h,_,_,_=>by cases h
 |f+1,k,t::r,x,h,st,hk,R=>by
  rw[DH] at h;by_cases h1:t.e≠0
  ·rw[if_pos h1] at h;cases h;exact Gv (by rw[BB.eq_def];simp only;rw[if_pos h1])
  rw[if_neg h1] at h;by_cases h2:t.sign≠0∧t.sign≠91∧t.sign≠123
  ·rw[if_pos h2] at h;cases h;exact Gv (by rw[BB.eq_def];simp only;rw[if_neg h1,if_pos h2])
  rw[if_neg h2] at h;by_cases h3:k=48
  ·rw[if_pos h3] at h;cases h;exact Gv (by rw[BB.eq_def];simp only;rw[if_neg h1,if_neg h2,if_pos (by omega)])
  rw[if_neg h3] at h;by_cases h4:t.sign=0
  ·rw[if_pos h4] at h;cases h;exact DU (by rw[BB.eq_def];simp only;rw[if_neg h1,if_neg h2,if_neg (by omega),if_pos h4])
  rw[if_neg h4] at h;exact Uu f k t r x h st hk R h1 h2 h3 h4
def Uu:∀(f k:Nat) (t:Tk) (r:List Tk) (x:RV),CA f k (decide (t.sign=123)) true [] [] r=some x→∀st:List Opn,st.length=k→∀R,¬t.e≠0→¬(t.sign≠0∧t.sign≠91∧t.sign≠123)→k≠48→t.sign≠0→goes (.begin_ st (t::r)) x st R
 |0,_,_,_,_,h,_,_,_,_,_,_,_=>by rw[CA] at h;cases h
 |f+1,_,_,[],_,h,_,_,_,_,_,_,_=>by rw[CA] at h;cases h
 |f+1,k,t,t2::r,x,h,st,hk,R,h1,h2,h3,h4=>by
  have hs:BB (.begin_ st (t::t2::r))=if t2.e=0∧t2.sign=Dl (decide (t.sign=123)) then some (.inl (.shut ⟨decide (t.sign=123),[],[]⟩ st (t2::r))) else
   if t.sign=91 then some (.inl (.begin_ (⟨false,[],[]⟩::st) (t2::r))) else some (.inl (.pair ⟨true,[],[]⟩ st (t2::r))):=by
   rw[BB.eq_def];simp only;rw[if_neg h1,if_neg h2,if_neg (by omega),if_neg h4]
  rw[CA] at h;by_cases g3:t2.e=0∧t2.sign=Dl (decide (t.sign=123))
  ·rw[if_pos g3] at h;cases h;rw[if_pos g3] at hs;exact fun hR=>DU hs (DU (by rw[BB.eq_def]) hR)
  rw[if_neg g3,if_pos Z] at h;rw[if_neg g3] at hs;have:=SA f k _ [] [] _ x h st hk R;by_cases g2:t.sign=91
  ·rw[if_pos g2] at hs;have e:decide (t.sign=123)=false:=by rw[g2];rfl
   rw[e,IY,if_neg (by decide)] at this;cases x with
   |error e=>exact fun hR=>DU hs (this hR)
   |ok y=>exact fun hR=>DU hs (this hR)
  ·rw[if_neg g2] at hs;have e:decide (t.sign=123)=true:=by rw[decide_eq_true_eq];omega
   rw[e,IY,if_pos Z] at this;cases x with
   |error e=>exact fun hR=>DU hs (this hR)
   |ok y=>exact fun hR=>DU hs (this hR)
def SA:∀(f k:Nat) (nm:Bool) (ks:List (List UInt8)) (l:List V) (ts:List Tk) (x:RV),Dj f k nm ks l ts=some x→∀st:List Opn,st.length=k→∀R,goes (IY nm ks l st ts) x st R
 |0,_,_,_,_,_,_,h,_,_,_=>by rw[Dj] at h;cases h
 |f+1,k,false,ks,l,ts,x,h,st,hk,R=>by
  rw[Dj] at h;rw[IY,if_neg (by decide)];cases hv:DH f (k+1) ts with
  |none=>rw[hv] at h;cases h
  |some y=>
   rw[hv] at h
   have hr:=PA f (k+1) ts y hv (⟨false,ks,l⟩::st) (by simp[hk]) R
   cases y with
   |error e=>cases h;exact hr
   |ok z=>
    have h2:=Ov f k false ks l z.1 z.2 x h st hk R
    cases x with
    |error e=>exact fun q=>hr (h2 q)
    |ok y=>exact fun q=>hr (h2 q)
 |f+1,k,true,ks,l,[],x,h,st,hk,R=>by rw[Dj.eq_def] at h;cases h
 |f+1,k,true,ks,l,t::r,x,h,st,hk,R=>by
  rw[Dj.eq_def] at h;simp only at h;rw[IY,if_pos Z];by_cases h1:t.e≠0
  ·rw[if_pos h1] at h;cases h;exact Gv (by rw[BB.eq_def];simp only;rw[if_pos h1])
  rw[if_neg h1] at h;by_cases h2:t.sign≠0∨t.v.kind≠4
  ·rw[if_pos h2] at h;cases h;exact Gv (by rw[BB.eq_def];simp only;rw[if_neg h1,if_pos h2])
  rw[if_neg h2] at h;cases r with
  |nil=>cases h
  |cons c r2=>
   simp only at h
   by_cases h3:c.e≠0
   ·rw[if_pos h3] at h;cases h;exact Gv (by rw[BB.eq_def];simp only;rw[if_neg h1,if_neg h2,if_pos h3])
   rw[if_neg h3] at h
   by_cases h4:c.sign≠58
   ·rw[if_pos h4] at h;cases h;exact Gv (by rw[BB.eq_def];simp only;rw[if_neg h1,if_neg h2,if_neg h3,if_pos h4])
   rw[if_neg h4] at h
   have hs:BB (.pair ⟨true,ks,l⟩ st (t::c::r2))=some (.inl (.begin_ (⟨true,ks++[t.v.text],l⟩::st) r2)):=by
    rw[BB.eq_def];simp only;rw[if_neg h1,if_neg h2,if_neg h3,if_neg h4]
   cases hv:DH f (k+1) r2 with
   |none=>rw[hv] at h;cases h
   |some y=>
    rw[hv] at h
    have hr:=PA f (k+1) r2 y hv (⟨true,ks++[t.v.text],l⟩::st) (by simp[hk]) R
    cases y with
    |error e=>cases h;exact fun q=>DU hs (hr q)
    |ok z=>
     have h2:=Ov f k true (ks++[t.v.text]) l z.1 z.2 x h st hk R
     cases x with
     |error e=>exact fun q=>DU hs (hr (h2 q))
     |ok y=>exact fun q=>DU hs (hr (h2 q))
def Ov:∀(f k:Nat) (nm:Bool) (ks:List (List UInt8)) (l:List V) (v:V) (ts:List Tk) (x:RV),CA f k nm false ks (l++[v]) ts=some x→∀st:List Opn,st.length=k→∀R,goes (.behind (⟨nm,ks,l⟩::st) v ts) x st R
 |0,_,_,_,_,_,_,_,h,_,_,_=>by rw[CA] at h;cases h
 |f+1,_,_,_,_,_,[],_,h,_,_,_=>by rw[CA] at h;cases h
 |f+1,k,nm,ks,l,v,t::r,x,h,st,hk,R=>by
  rw[CA] at h;have he:Dl nm≠44:=by cases nm<;>decide
  by_cases h2:t.e=0∧t.sign=Dl nm
  ·rw[if_pos h2] at h;cases h;have h1:¬t.e≠0:=fun q=>q h2.1;have hs:BB (.behind (⟨nm,ks,l⟩::st) v (t::r))=some (.inl (.shut ⟨nm,ks,l++[v]⟩ st (t::r))):=by
    rw[BB.eq_def];simp only;rw[if_neg h1,if_neg (by omega),if_pos h2.2]
   exact fun hR=>DU hs (DU (by rw[BB.eq_def]) hR)
  rw[if_neg h2,if_neg (by decide)] at h;by_cases h1:t.e≠0
  ·rw[if_pos h1] at h;cases h;exact Gv (by rw[BB.eq_def];simp only;rw[if_pos h1])
  rw[if_neg h1] at h;have h2':¬t.sign=Dl nm:=fun q=>h2 ⟨by omega,q⟩;by_cases h3:t.sign≠44
  ·rw[if_pos h3] at h;cases h;exact Gv (by rw[BB.eq_def];simp only;rw[if_neg h1,if_neg h3,if_neg h2'])
  rw[if_neg h3] at h;have:=SA f k nm ks (l++[v]) r x h st hk R;have hs:BB (.behind (⟨nm,ks,l⟩::st) v (t::r))=some (.inl (IY nm ks (l++[v]) st r)):=by
   rw[BB.eq_def];simp only;rw[if_neg h1,if_pos (by omega),IY];cases nm<;>rfl
  cases x with
  |error e=>exact fun q=>DU hs (this q)
  |ok y=>exact fun q=>DU hs (this q)
end
def Zf{f:Nat}{ts:List Tk}{R:Except Int V}(h:I2 f ts=some R):∃g,runM g (.begin_ [] ts)=some R:=by
 unfold I2 at h;cases hv:DH f 0 ts with
 |none=>rw[hv] at h;cases h
 |some x=>
  rw[hv] at h
  have hr:=PA f 0 ts x hv [] Z R
  cases x with
  |error e=>cases h;exact hr Z
  |ok y=>
   obtain⟨v,ts2⟩:=y
   refine hr ?_
   cases ts2 with
   |nil=>cases h
   |cons t r=>
    simp only at h
    by_cases h1:t.e≠0
    ·rw[if_pos h1] at h;cases h;exact Mm (by rw[BB.eq_def];simp only;rw[if_pos h1])
    rw[if_neg h1] at h
    by_cases h2:t.sign≠255
    ·rw[if_pos h2] at h;cases h;exact Mm (by rw[BB.eq_def];simp only;rw[if_neg h1,if_pos h2])
    rw[if_neg h2] at h;cases h
    exact Mm (by rw[BB.eq_def];simp only;rw[if_neg h1,if_neg h2])
def Jh(s:List UInt8)(c:UInt8):Gr (s++[c])=Gr s*10+dg c:=by simp[Gr]
def Mu:∀(n:Nat) (s:List UInt8),s.length=n→(∀c∈s,isD c=true)→Gr s<10 ^ n
 |0,s,h,_=>by
  have:s=[]:=Acm h;subst this;decide
 |n+1,s,h,hd=>by
  have hne:s≠[]:=by intro q;subst q;cases h
  rw[←Afb hne] at hd⊢;rw[Jh];have h1:=Mu n s.dropLast (by simp[h]) (fun c hc=>hd c (Aep _ hc));have h2:=Io (hd (s.getLast hne) (by simp));rw[Nat.pow_succ];omega
def KA:∀{s}{c:UInt8}{t},CU s=c::t→c≠48
 |[],_,_,h=>by cases h
 |a::s,c,t,h=>by
  rw[CU] at h;split at h
  ·exact KA h
  ·rename_i q;cases h;exact q
def UK(s:List UInt8):B4 (DX s).1 (DX s).2.1=true:=by
 have h0:B4 0 0=true:=by decide
 unfold DX;cases hc:FL s with
 |none=>exact h0
 |some t=>
  simp only
  cases hx:ED t.x with
  |none=>exact h0
  |some x=>
   simp only
   by_cases q1:C6 (CU (t.w++t.f))=[]
   ·rw[if_pos q1];exact h0
   rw[if_neg q1]
   by_cases q2:18<(C6 (CU (t.w++t.f))).length
   ·rw[if_pos q2];exact h0
   rw[if_neg q2]
   split
   ·exact h0
   ·rename_i q3
    have hd:∀c∈C6 (CU (t.w++t.f)),isD c=true:=fun c hc2=>(JT hc).1 c ((G1 _).2 c ((Js _).2 c hc2))
    generalize hb:C6 (CU (t.w++t.f))=b at*
    have hlt:=Mu _ b Z hd
    obtain⟨c,u,hcu⟩:∃c u,CU (CU (t.w++t.f)).reverse=c::u:=by
     cases he:CU (CU (t.w++t.f)).reverse with
     |nil=>rw[C6,he] at hb;exact absurd hb.symm q1
     |cons c u=>exact⟨c,u,Z⟩
    have hbe:b=u.reverse++[c]:=by rw[←hb,C6,hcu,Ael]
    have hc48:=KA hcu
    have hcd:isD c=true:=hd c (by rw[hbe];simp)
    have h1:=Io hcd
    have h2:dg c≠0:=fun q=>hc48 ((IA hcd).1 q)
    have hv:Gr b=Gr u.reverse*10+dg c:=by rw[hbe,Jh]
    have h18:Gr b<1000000000000000000:=Nat.lt_of_lt_of_le hlt (by
     have:(10:Nat)^ b.length≤10 ^ 18:=Agd (by omega) (by omega);exact this)
    generalize Gr b=w at*
    generalize sgn x.1 (Gg x.2) - (t.f.length:Int)+((CU (t.w++t.f)).length:Int) - (b.length:Int)=ee at*
    unfold B4 sgn
    cases t.neg with
    |true=>
     simp only[if_true]
     rw[if_neg (by omega)]
     rw[decide_eq_true_eq]
     simp only[not_or] at q3
     refine⟨by omega,by omega,by omega,by omega,by omega⟩
    |false=>
     simp only[Adl,if_false]
     rw[if_neg (by omega)]
     rw[decide_eq_true_eq]
     simp only[not_or] at q3
     refine⟨by omega,by omega,by omega,by omega,by omega⟩
def CD:∀a b:List V,BH (a++b)=BH a+BH b
 |[],b=>by simp[BH]
 |x::a,b=>by rw[List.cons_append,BH,BH,CD a b];omega
def F6(x:V):BH [x]=BG x:=by simp[BH]
def Kj:∀(l:List V) (i:Nat) (x:V),BH (l.set i x)≤BH l+BG x
 |[],_,_=>by simp[BH]
 |y::l,0,x=>by rw[List.set_cons_zero,BH,BH];omega
 |y::l,i+1,x=>by
  have:=Kj l i x;rw[List.set_cons_succ,BH,BH];omega
def Kx:∀l:List V,l.length≤BH l
 |[]=>Acu _
 |x::l=>by
  have:=Kx l;have:=CP x;rw[BH,Acg];omega
def Y9{o:List (List UInt8)×List V}(h:o.1.length=o.2.length)(k:List UInt8)(x:V):BH (Dx o k x).2≤BH o.2+BG x:=by
 have hl:=Fi o.1 k;unfold Dx;split
 ·exact Kj _ _ _
 ·have e:(o.2.take (AT o.1 k)++[x]++o.2.drop (AT o.1 k)).set (AT o.1 k) x=o.2.take (AT o.1 k)++[x]++o.2.drop (AT o.1 k):=by
   have hi:(o.2.take (AT o.1 k)).length=AT o.1 k:=by rw[Aco];omega
   rw[Ach,Agb _ _ (by omega),hi,Aeu];rfl
  simp only;rw[e,CD,CD,F6];have:BH (o.2.take (AT o.1 k))+BH (o.2.drop (AT o.1 k))=BH o.2:=by rw[←CD,Aem]
  omega
def Rg(ks:List (List UInt8))(l:List V):∀n,n≤l.length→(BO ks l n).1.length=(BO ks l n).2.length∧(BO ks l n).1.length≤n∧BH (BO ks l n).2≤BH (l.take n)
 |0,_=>⟨Z,Ack _,by simp[BO,BH]⟩
 |n+1,h=>by
  obtain⟨h1,h2,h3⟩:=Rg ks l n (by omega);have hi:=Tu h1 (ks.getD n []) (l.getD n V.zero);have ht:=Y9 h1 (ks.getD n []) (l.getD n V.zero);rw[BO];refine⟨hi.1,by omega,?_⟩
  have e:l.take (n+1)=l.take n++[l.getD n V.zero]:=by
   rw[Acx (by omega)];congr 1;simp[show n<l.length by omega]
  rw[e,CD,F6];omega
def Sr(nm:Bool)(ks:List (List UInt8))(l:List V):BG (Fx nm ks l)≤1+ks.length+BH l:=by
 cases nm with
 |false=>simp only[Fx,CP];simp
 |true=>
  rw[Fx,if_pos Z]
  unfold Dk
  have hz:BG V.zero=1:=by rfl
  split
  ·simp only[hz];omega
  rename_i q
  repeat' split
  any_goals (simp only[hz];omega)
  simp only[FE,CP,V.keys,V.list,V.text]
  obtain⟨h1,h2,h3⟩:=Rg ks l ks.length (by omega)
  rw[Adm (by omega)] at h3
  simp only[Acs]
  omega
def Nq:Cf V.zero=true:=by rfl
def Xo{l:List V}(h:∀x∈l,Cf x=true):Cf (.mk 5 0 0 [] l [])=true:=by
 rw[DZ];have:Cz (.mk 5 0 0 [] l [])=true:=by
  simp only[Cz,CI,V.kind,V.m,V.e,V.text,V.keys,V.list];simp[B4,u8,rising,Ep];rfl
 rw[this];simpa using h
def Xn{nm:Bool}{ks}{l:List V}(h:∀x∈l,Cf x=true∧Bj x≤48):Cf (Fx nm ks l)=true:=by
 cases nm with
 |false=>exact Xo (fun x hx=>(h x hx).1)
 |true=>
  rw[Fx,if_pos Z]
  unfold Dk
  repeat' split
  any_goals exact Nq
  rename_i q1 q2 q3 q4
  exact RI (by simpa using q2) (by omega) (Iq.1 (by omega))
def UA{nm:Bool}{ks}{l:List V}{n:Nat}(h:∀x∈l,Bj x≤n):Bj (Fx nm ks l)≤n+1:=by
 have hz:Bj V.zero=1:=by rfl
 cases nm with
 |false=>exact EL.2 h
 |true=>
  rw[Fx,if_pos Z]
  unfold Dk
  repeat' split
  any_goals (simp only[hz];omega)
  rename_i q1 q2 q3 q4
  exact EL.2 (fun x hx=>h x (ND (by simpa using q2) (by omega) hx))
def OkT(t:Tk):Prop:=Cf t.v=true∧t.v.list=[]∧t.v.keys=[]
def Xr{k:Int}(h:0≤k∧k≤2):Cf (MP k)=true:=by
 obtain⟨h1,h2⟩:=h;have:k=0∨k=1∨k=2:=by omega
 rcases this with rfl|rfl|rfl<;>rfl
def XE{t}(h:Lib.validD t=true):Cf (MF t)=true:=by
 rw[DZ];simp only[MF,Cz,CI,V.kind,V.m,V.e,V.text,V.keys,V.list];simp[B4,u8,rising,Ep,h]
def Zz{m e:Int}(h:B4 m e=true):Cf (MC m e)=true:=by
 rw[DZ];simp only[MC,Cz,CI,V.kind,V.m,V.e,V.text,V.keys,V.list];simp[u8,rising,Ep,h];rfl
def Vw{t}{k:Int}(h:Hh t=some k):0≤k∧k≤2:=by
 unfold Hh at h;repeat' split at h
 all_goals (cases h<;>decide)
def ZX(s:List UInt8):Cf (C2 s).2.1=true:=by
 cases s with
 |nil=>exact Nq
 |cons c s=>
  rw[C2]
  repeat' split
  any_goals exact Nq
  ·exact XE (SU _)
  ·rename_i k hk
   exact Xr (Vw hk)
  ·exact Zz (UK _)
def YH(s:List UInt8)(p:Nat):OkT (Ce s p):=⟨ZX _,(Pg _).2.1,(Pg _).2.2⟩
def QU:∀(f:Nat) (s:List UInt8) (p:Nat),∀t∈Fw f s p,OkT t
 |0,_,_,t,h=>by cases h
 |f+1,s,p,t,h=>by
  rw[Fw] at h;rcases Adj.1 h with rfl|h
  ·exact YH s p
  ·split at h
   ·exact QU f s _ t h
   ·cases h
def Iv(s:List UInt8)(p:Nat):∀t∈Dh s p,OkT t:=QU _ s p
def wtT(t:Tk):Nat:=1+t.v.text.length
def wts:List Tk→Nat
 |[]=>0
 |t::r=>wtT t+wts r
def PB:∀ts:List Tk,ts.length≤wts ts
 |[]=>Ack _
 |t::r=>by
  have:=PB r;rw[wts,wtT,Acg];omega
def Vl{t:Tk}(h:OkT t):BG t.v=wtT t:=by
 obtain⟨_,h1,h2⟩:=h;rw[CP,wtT,h1,h2];simp[BH]
def QO:∀(f:Nat) (s:List UInt8) (p:Nat),p≤s.length→wts (Fw f s p)≤5*(s.length - p)+1
 |0,_,_,_=>Acu _
 |f+1,s,p,h=>by
  have h1:=Hy h;have h2:(Ce s p).v.text.length≤4*((Ce s p).too - (Ce s p).at_):=by
   have:=(Pg (s.drop (Ce s p).at_)).1;have e:(Ce s p).too - (Ce s p).at_=(C2 (s.drop (Ce s p).at_)).2.2.1:=by simp only[Ce];omega
   rw[e];exact this
  rw[Fw,wts,wtT];by_cases q:(Ce s p).on=true
  ·rw[if_pos q];have h3:=QO f s _ h1.2.2.1;have h4:=h1.2.2.2 q;omega
  ·rw[if_neg q,wts];omega
def JK(s:List UInt8):wts (Dh s 0)≤5*s.length+1:=QO _ s 0 (Acu _)
def wfT:List Tk→Prop
 |[]=>False
 |t::r=>if t.on=true then wfT r else r=[]
def Rj:∀(f:Nat) (s:List UInt8) (p:Nat),p≤s.length→s.length<f+p→wfT (Fw f s p)
 |0,_,_,h,h1=>by omega
 |f+1,s,p,h,h1=>by
  have h2:=Hy h;rw[Fw];by_cases q:(Ce s p).on=true
  ·rw[if_pos q,wfT,if_pos q];have h4:=h2.2.2.2 q;exact Rj f s _ h2.2.2.1 (by omega)
  ·rw[if_neg q,wfT,if_neg q]
def ML(s:List UInt8):wfT (Dh s 0):=Rj _ s 0 (Acu _) (by omega)
def Gy{t:Tk}{r:List Tk}(h:wfT (t::r))(he:¬t.e≠0)(hs:t.sign≠255):wfT r:=by
 rw[wfT,if_pos (by simp only[Tk.on,decide_eq_true_eq];exact⟨by omega,hs⟩)] at h;exact h
end Go.Gk.Jsn
end
section
namespace Go.Gk.Jsn
open Go Go.Gk Go.Proofs Go.RowKit Go.Shelf Go.Gk.Val
variable{ρ:Ren}
def Oc(P:Program)(f:FuncId):Prop:=∀{d l}{c:UInt8},AO P f [Ag l,.int .u8 (c.toNat:Int)] d (vZ (Lib.indexByte l c))
def Y4{P}(L:Lays.n137 P ρ)(hc:Du P (ρ.f 137)):Oc P (ρ.f 137):=by
 intro d l c;refine Gh hc (fun W=>?_);have:=Any.strings_IndexByte L ⟨l.toArray⟩ (c.toNat:Int) W;rw[show((c.toNat:Int).toNat.toUInt8)=c by rw[Adc];exact UInt8.ofNat_toNat ..] at this;exact this
def R0{c:UInt8}:∀{l},(0≤Lib.indexByte l c)↔c∈l
 |[]=>by simp[Lib.indexByte]
 |b::l=>by
  rw[Lib.indexByte,Adj];have ih:= @R0 c l
  by_cases h:b=c
  ·rw[if_pos (by simp[h])];simp[h]
  ·rw[if_neg (by simpa using h)];by_cases h2:Lib.indexByte l c= -1
   ·rw[if_pos (by simpa using h2)];constructor
    ·intro q;omega
    ·rintro(q|q)
     ·exact absurd q.symm h
     ·have:=ih.2 q;omega
   ·rw[if_neg (by simpa using h2)];have hge: -1≤Lib.indexByte l c:=by
     clear ih h2;induction l with
     |nil=>exact Afv _
     |cons a l ihl=>
      rw[Lib.indexByte]
      split
      ·omega
      ·split
       ·omega
       ·rename_i q;simp at q;omega
    constructor
    ·intro q;exact .inr (ih.1 (by omega))
    ·rintro(q|q)
     ·exact absurd q.symm h
     ·have:=ih.2 q;omega
def NZ(P:Program)(f:FuncId):Prop:=∀{d l}{c:UInt8},AO P f [Ag l,Ag [c]] d (.bool (decide (l.head?=some c)))
def YO{P}(L:Lays.n99 P ρ)(hc:Du P (ρ.f 99)):NZ P (ρ.f 99):=by
 intro d l c;refine Gh hc (fun W=>?_);have:=Any.strings_HasPrefix L ⟨l.toArray⟩ ⟨#[c]⟩ W;have e:Lib.hasPrefix l [c]=decide (l.head?=some c):=by
  cases l with
  |nil=>rfl
  |cons b l=>simp[Lib.hasPrefix,List.isPrefixOf,eq_comm,Bool.beq_eq_decide_eq]
 rw[←e];exact this
def KO:∀l:List UInt8,Lib.trimLeftB l 48=CU l
 |[]=>rfl
 |c::l=>by
  have ih:=KO l;unfold Lib.trimLeftB at ih⊢;rw[List.dropWhile_cons,CU];by_cases h:c=48
  ·rw[if_pos h,if_pos (by simp[h])];exact ih
  ·rw[if_neg h,if_neg (by simpa using h)]
def U1(l:List UInt8):Lib.trimRightB l 48=C6 l:=by
 rw[C6,←KO];rfl
def UB(P:Program)(f:FuncId):Prop:=∀{d l},AO P f [Ag l,Ag [48]] d (Ag (CU l))
def AaS{P}(L:Lays.n161 P ρ)(hc:Du P (ρ.f 161)):UB P (ρ.f 161):=by
 intro d l;refine Gh hc (fun W=>?_);have:=Any.strings_TrimLeft_one L ⟨l.toArray⟩ 48 (by decide) W;rw[←KO];exact this
def Un(P:Program)(f:FuncId):Prop:=∀{d l},l.length≤100000000→AO P f [Ag l,Ag [48]] d (Ag (C6 l))
def Aal{P}(L:Lays.n162 P ρ)(hc:Du P (ρ.f 162)):Un P (ρ.f 162):=by
 intro d l hl;refine Gh hc (fun W=>?_);have:=Any.strings_TrimRight_one L ⟨l.toArray⟩ 48 (by decide) W (by show l.toArray.size≤_;simp;omega);rw[←U1];exact this
def Uq(P:Program)(f:FuncId):Prop:=∀{d}{n:Nat},n≤1000000→AO P f [Ag [48],vZ (n:Int)] d (Ag (Adi n 48))
def AaG{P}(L:Lays.n105 P ρ)(X:Builder.Extra P ρ)(hc:Du P (ρ.f 105)):Uq P (ρ.f 105):=by
 intro d n hn;refine AO.Nh hc (fun W hs=>?_);have:=Any.strings_Repeat L X ⟨#[48]⟩ n W (by omega) (by show 1*n≤_;omega);have e:Lib.repeatL [48] n=Adi n 48:=by
  have:=Lib.repeatL_replicate 48 1 n;rw[Nat.mul_one] at this;exact this
 rw[←e];exact this
end Go.Gk.Jsn
end
section
namespace Go.Gk.Jsn
open Go Go.Gk Go.Gk.Val
structure UL (k:Nat) (W:Nat) (y:V×List Tk) (n:Nat):Prop where
 wt:BG y.1+wts y.2≤W
 may:Cf y.1=true
 dep:Bj y.1+k≤48
 ok:∀t∈y.2,OkT t
 len:y.2.length<n
 wf:wfT y.2
structure Fz (k:Nat) (l:List V):Prop where
 may:∀x∈l,Cf x=true∧Bj x+k+1≤48
def Fz.nil(k:Nat):Fz k []:=⟨fun x h=>by cases h⟩
def Fz.snoc{k:Nat}{l:List V}{x:V}(h:Fz k l)(hm:Cf x=true)(hd:Bj x+(k+1)≤48):Fz k (l++[x]):=⟨fun y hy=>by
 rcases Acp.1 hy with h1|h1
 ·exact h.may y h1
 ·rw[Ade] at h1;subst h1;exact⟨hm,by omega⟩⟩
def UD{t:Tk}(h:OkT t):Bj t.v=1:=by
 have:Bj t.v≤0+1:=EL.2 (by rw[h.2.1];intro x hx;cases hx);have:=Fs t.v;omega
def C4{t:Tk}{r:List Tk}(h:∀u∈t::r,OkT u):OkT t∧∀u∈r,OkT u:=⟨h t (Acr ..),fun u hu=>h u (Aci _ hu)⟩
mutual
def GQ:∀(f k:Nat) (ts:List Tk) (y:V×List Tk),DH f k ts=some (.ok y)→(∀t∈ts,OkT t)→wfT ts→k≤48→UL k (wts ts) y ts.length
 |0,_,_,_,h,_,_,_=>by cases h
 |f+1,_,[],_,h,_,_,_=>by cases h
 |f+1,k,t::r,y,h,ho,hw,hk=>by
  rw[DH] at h;obtain⟨ht,hr⟩:=C4 ho;by_cases h1:t.e≠0
  ·rw[if_pos h1] at h;cases h
  rw[if_neg h1] at h;by_cases h2:t.sign≠0∧t.sign≠91∧t.sign≠123
  ·rw[if_pos h2] at h;cases h
  rw[if_neg h2] at h;by_cases h3:k=48
  ·rw[if_pos h3] at h;cases h
  rw[if_neg h3] at h;have hwf:=Gy hw h1 (by omega);by_cases h4:t.sign=0
  ·rw[if_pos h4] at h;cases h;have hd:=UD ht;exact⟨by rw[Vl ht,wts];exact Ack _,ht.1,by simp only;omega,hr,by simp,hwf⟩
  rw[if_neg h4] at h;have g:=Kq f k (decide (t.sign=123)) true [] [] r y h hr hwf (by omega) (Fz.nil k);have hz:BH []=0:=Z;exact⟨by have:=g.wt;simp only[Acs,hz] at this;rw[wts,wtT];omega,g.may,g.dep,g.ok,by have:=g.len;rw[Acg];omega,g.wf⟩
def Kq:∀(f k:Nat) (nm first:Bool) (ks:List (List UInt8)) (l:List V) (ts:List Tk) (y:V×List Tk),CA f k nm first ks l ts=some (.ok y)→(∀t∈ts,OkT t)→wfT ts→k<48→Fz k l→
  UL k (1+ks.length+BH l+wts ts) y (ts.length)
 |0,_,_,_,_,_,_,_,h,_,_,_,_=>by rw[CA] at h;cases h
 |f+1,_,_,_,_,_,[],_,h,_,_,_,_=>by rw[CA] at h;cases h
 |f+1,k,nm,first,ks,l,t::r,y,h,ho,hw,hk,hl=>by
  rw[CA] at h;obtain⟨ht,hr⟩:=C4 ho;by_cases h2:t.e=0∧t.sign=Dl nm
  ·rw[if_pos h2] at h;cases h;have hwf:=Gy hw (fun q=>q h2.1) (by rw[h2.2];cases nm<;>decide);have hd:= @UA nm ks l (47 - k) (fun x hx=>by have:=(hl.may x hx).2;omega)
   have hm:= @Xn nm ks l (fun x hx=>⟨(hl.may x hx).1,by have:=(hl.may x hx).2;omega⟩)
   have hx:=Sr nm ks l;exact⟨by rw[wts];simp only;omega,hm,by simp only;omega,hr,by simp,hwf⟩
  rw[if_neg h2] at h;by_cases h3:first=true
  ·rw[if_pos h3] at h;exact P5 f k nm ks l _ y h ho hw hk hl
  rw[if_neg h3] at h;by_cases h1:t.e≠0
  ·rw[if_pos h1] at h;cases h
  rw[if_neg h1] at h;by_cases h4:t.sign≠44
  ·rw[if_pos h4] at h;cases h
  rw[if_neg h4] at h;have hwf:=Gy hw h1 (by omega);have g:=P5 f k nm ks l _ y h hr hwf hk hl;exact⟨by have:=g.wt;rw[wts];omega,g.may,g.dep,g.ok,by have:=g.len;rw[Acg];omega,g.wf⟩
def P5:∀(f k:Nat) (nm:Bool) (ks:List (List UInt8)) (l:List V) (ts:List Tk) (y:V×List Tk),Dj f k nm ks l ts=some (.ok y)→(∀t∈ts,OkT t)→wfT ts→k<48→Fz k l→
  UL k (1+ks.length+BH l+wts ts) y (ts.length)
 |0,_,_,_,_,_,_,h,_,_,_,_=>by rw[Dj] at h;cases h
 |f+1,k,false,ks,l,ts,y,h,ho,hw,hk,hl=>by
  rw[Dj] at h;cases hv:DH f (k+1) ts with
  |none=>rw[hv] at h;cases h
  |some x=>
   rw[hv] at h
   cases x with
   |error e=>cases h
   |ok z=>
    have g:=GQ f (k+1) ts z hv ho hw (by omega)
    have g2:=Kq f k false false ks (l++[z.1]) z.2 y h g.ok g.wf hk (hl.snoc g.may g.dep)
    exact⟨by have:=g.wt;have:=g2.wt;rw[CD,F6] at this;omega,g2.may,g2.dep,g2.ok,by have:=g.len;have:=g2.len;omega,g2.wf⟩
 |f+1,k,true,ks,l,[],y,h,_,_,_,_=>by rw[Dj.eq_def] at h;cases h
 |f+1,k,true,ks,l,t::r,y,h,ho,hw,hk,hl=>by
  rw[Dj.eq_def] at h;simp only at h;obtain⟨ht,hr⟩:=C4 ho;by_cases h1:t.e≠0
  ·rw[if_pos h1] at h;cases h
  rw[if_neg h1] at h;by_cases h2:t.sign≠0∨t.v.kind≠4
  ·rw[if_pos h2] at h;cases h
  rw[if_neg h2] at h;have hwf:=Gy hw h1 (by omega);cases r with
  |nil=>cases h
  |cons c r2=>
   simp only at h
   obtain⟨hc,hr2⟩:=C4 hr
   by_cases h3:c.e≠0
   ·rw[if_pos h3] at h;cases h
   rw[if_neg h3] at h
   by_cases h4:c.sign≠58
   ·rw[if_pos h4] at h;cases h
   rw[if_neg h4] at h
   have hwf2:=Gy hwf h3 (by omega)
   cases hv:DH f (k+1) r2 with
   |none=>rw[hv] at h;cases h
   |some x=>
    rw[hv] at h
    cases x with
    |error e=>cases h
    |ok z=>
     have g:=GQ f (k+1) r2 z hv hr2 hwf2 (by omega)
     have g2:=Kq f k true false (ks++[t.v.text]) (l++[z.1]) z.2 y h g.ok g.wf hk (hl.snoc g.may g.dep)
     exact⟨by have:=g.wt;have:=g2.wt;rw[CD,F6,Acd] at this;rw[wts,wts,wtT,wtT];simp only[Adf] at this;omega,g2.may,g2.dep,g2.ok,by have:=g.len;have:=g2.len;simp only[Acg];omega,g2.wf⟩
end
mutual
def Ny:∀(f k:Nat) (ts:List Tk),(∀t∈ts,OkT t)→wfT ts→k≤48→3*ts.length<f→∃x,DH f k ts=some x
 |0,_,_,_,_,_,h=>by omega
 |f+1,_,[],_,h,_,_=>by cases h
 |f+1,k,t::r,ho,hw,hk,hf=>by
  rw[DH];obtain⟨ht,hr⟩:=C4 ho;by_cases h1:t.e≠0
  ·rw[if_pos h1];exact⟨_,Z⟩
  rw[if_neg h1];by_cases h2:t.sign≠0∧t.sign≠91∧t.sign≠123
  ·rw[if_pos h2];exact⟨_,Z⟩
  rw[if_neg h2];by_cases h3:k=48
  ·rw[if_pos h3];exact⟨_,Z⟩
  rw[if_neg h3];by_cases h4:t.sign=0
  ·rw[if_pos h4];exact⟨_,Z⟩
  rw[if_neg h4];rw[Acg] at hf;exact Kf f k _ true [] [] r hr (Gy hw h1 (by omega)) (by omega) (Fz.nil k) (by omega)
def Kf:∀(f k:Nat) (nm first:Bool) (ks:List (List UInt8)) (l:List V) (ts:List Tk),(∀t∈ts,OkT t)→wfT ts→k<48→Fz k l→3*ts.length+2<f→∃x,CA f k nm first ks l ts=some x
 |0,_,_,_,_,_,_,_,_,_,_,h=>by omega
 |f+1,_,_,_,_,_,[],_,h,_,_,_=>by cases h
 |f+1,k,nm,first,ks,l,t::r,ho,hw,hk,hl,hf=>by
  rw[CA];obtain⟨ht,hr⟩:=C4 ho;rw[Acg] at hf;by_cases h2:t.e=0∧t.sign=Dl nm
  ·rw[if_pos h2];exact⟨_,Z⟩
  rw[if_neg h2];by_cases h3:first=true
  ·rw[if_pos h3];exact P6 f k nm ks l _ ho hw hk hl (by rw[Acg];omega)
  rw[if_neg h3];by_cases h1:t.e≠0
  ·rw[if_pos h1];exact⟨_,Z⟩
  rw[if_neg h1];by_cases h4:t.sign≠44
  ·rw[if_pos h4];exact⟨_,Z⟩
  rw[if_neg h4];exact P6 f k nm ks l r hr (Gy hw h1 (by omega)) hk hl (by omega)
def P6:∀(f k:Nat) (nm:Bool) (ks:List (List UInt8)) (l:List V) (ts:List Tk),(∀t∈ts,OkT t)→wfT ts→k<48→Fz k l→3*ts.length+1<f→∃x,Dj f k nm ks l ts=some x
 |0,_,_,_,_,_,_,_,_,_,h=>by omega
 |f+1,k,false,ks,l,ts,ho,hw,hk,hl,hf=>by
  obtain⟨x,hv⟩:=Ny f (k+1) ts ho hw (by omega) (by omega);rw[Dj,hv];cases x with
  |error e=>exact⟨_,Z⟩
  |ok z=>
   have g:=GQ f (k+1) ts z hv ho hw (by omega)
   have:=g.len
   exact Kf f k false false ks (l++[z.1]) z.2 g.ok g.wf hk (hl.snoc g.may g.dep) (by omega)
 |f+1,k,true,ks,l,[],ho,hw,_,_,_=>by cases hw
 |f+1,k,true,ks,l,t::r,ho,hw,hk,hl,hf=>by
  rw[Dj.eq_def];simp only;obtain⟨ht,hr⟩:=C4 ho;rw[Acg] at hf;by_cases h1:t.e≠0
  ·rw[if_pos h1];exact⟨_,Z⟩
  rw[if_neg h1];by_cases h2:t.sign≠0∨t.v.kind≠4
  ·rw[if_pos h2];exact⟨_,Z⟩
  rw[if_neg h2];have hwf:=Gy hw h1 (by omega);cases r with
  |nil=>cases hwf
  |cons c r2=>
   simp only
   obtain⟨hc,hr2⟩:=C4 hr
   rw[Acg] at hf
   by_cases h3:c.e≠0
   ·rw[if_pos h3];exact⟨_,Z⟩
   rw[if_neg h3]
   by_cases h4:c.sign≠58
   ·rw[if_pos h4];exact⟨_,Z⟩
   rw[if_neg h4]
   have hwf2:=Gy hwf h3 (by omega)
   obtain⟨x,hv⟩:=Ny f (k+1) r2 hr2 hwf2 (by omega) (by omega)
   rw[hv]
   cases x with
   |error e=>exact⟨_,Z⟩
   |ok z=>
    have g:=GQ f (k+1) r2 z hv hr2 hwf2 (by omega)
    have:=g.len
    exact Kf f k true false _ (l++[z.1]) z.2 g.ok g.wf hk (hl.snoc g.may g.dep) (by omega)
end
def W7(s:List UInt8):∃x,I2 (3*(Dh s 0).length+1) (Dh s 0)=some x:=by
 obtain⟨x,hx⟩:=Ny (3*(Dh s 0).length+1) 0 (Dh s 0) (Iv s 0) (ML s) (by omega) (by omega);rw[I2,hx];cases x with
 |error e=>exact⟨_,Z⟩
 |ok y=>
  have g:=GQ _ _ _ y hx (Iv s 0) (ML s) (by omega)
  obtain⟨v,ts⟩:=y
  cases ts with
  |nil=>exact g.wf.elim
  |cons t r=>
   simp only
   split
   ·exact⟨_,Z⟩
   ·split<;>exact⟨_,Z⟩
def FW(s:List UInt8):Except Int V:=(I2 (3*(Dh s 0).length+1) (Dh s 0)).getD (.error 0)
def I4(s:List UInt8):I2 (3*(Dh s 0).length+1) (Dh s 0)=some (FW s):=by
 obtain⟨x,hx⟩:=W7 s;rw[FW,hx];rfl
def Cj(s:List UInt8):V:=match FW s with|.ok v=>v|.error _=>V.zero
def Fu(s:List UInt8):Int:=match FW s with|.ok _=>0|.error e=>e
def Qc{s}{v:V}(h:FW s=.ok v):BG v≤5*s.length+1∧Bf v=0:=by
 have h1:=I4 s;rw[h,I2] at h1;cases hx:DH (3*(Dh s 0).length+1) 0 (Dh s 0) with
 |none=>rw[hx] at h1;cases h1
 |some x=>
  rw[hx] at h1
  cases x with
  |error e=>cases h1
  |ok y=>
   have g:=GQ _ _ _ y hx (Iv s 0) (ML s) (by omega)
   have hwt:=JK s
   obtain⟨u,ts⟩:=y
   have:u=v:=by
    cases ts with
    |nil=>exact g.wf.elim
    |cons t r=>
     simp only at h1
     split at h1
     ·cases h1
     ·split at h1<;>cases h1
      rfl
   subst this
   refine⟨by have:=g.wt;simp only at this;omega,?_⟩
   have hd:=g.dep
   have hm:=g.may
   simp only at hd hm
   rw[Bf,if_pos (by omega),if_pos hm]
mutual
def J2:∀(f k:Nat) (ts:List Tk) (e:Int),DH f k ts=some (.error e)→e≠0
 |0,_,_,_,h=>by cases h
 |f+1,_,[],_,h=>by cases h
 |f+1,k,t::r,e,h=>by
  rw[DH] at h;by_cases h1:t.e≠0
  ·rw[if_pos h1] at h;cases h;exact h1
  rw[if_neg h1] at h;by_cases h2:t.sign≠0∧t.sign≠91∧t.sign≠123
  ·rw[if_pos h2] at h;cases h;decide
  rw[if_neg h2] at h;by_cases h3:k=48
  ·rw[if_pos h3] at h;cases h;decide
  rw[if_neg h3] at h;by_cases h4:t.sign=0
  ·rw[if_pos h4] at h;cases h
  rw[if_neg h4] at h;exact Lv f k _ _ _ _ r e h
def Lv:∀(f k:Nat) (nm first:Bool) (ks:List (List UInt8)) (l:List V) (ts:List Tk) (e:Int),CA f k nm first ks l ts=some (.error e)→e≠0
 |0,_,_,_,_,_,_,_,h=>by rw[CA] at h;cases h
 |f+1,_,_,_,_,_,[],_,h=>by rw[CA] at h;cases h
 |f+1,k,nm,first,ks,l,t::r,e,h=>by
  rw[CA] at h;by_cases h2:t.e=0∧t.sign=Dl nm
  ·rw[if_pos h2] at h;cases h
  rw[if_neg h2] at h;by_cases h3:first=true
  ·rw[if_pos h3] at h;exact Rr f k nm ks l _ e h
  rw[if_neg h3] at h;by_cases h1:t.e≠0
  ·rw[if_pos h1] at h;cases h;exact h1
  rw[if_neg h1] at h;by_cases h4:t.sign≠44
  ·rw[if_pos h4] at h;cases h;decide
  rw[if_neg h4] at h;exact Rr f k nm ks l _ e h
def Rr:∀(f k:Nat) (nm:Bool) (ks:List (List UInt8)) (l:List V) (ts:List Tk) (e:Int),Dj f k nm ks l ts=some (.error e)→e≠0
 |0,_,_,_,_,_,_,h=>by rw[Dj] at h;cases h
 |f+1,k,false,ks,l,ts,e,h=>by
  rw[Dj] at h;cases hv:DH f (k+1) ts with
  |none=>rw[hv] at h;cases h
  |some x=>
   rw[hv] at h
   cases x with
   |error e=>cases h;exact J2 f (k+1) ts _ hv
   |ok z=>exact Lv f k _ _ _ _ _ e h
 |f+1,k,true,ks,l,[],e,h=>by rw[Dj.eq_def] at h;cases h
 |f+1,k,true,ks,l,t::r,e,h=>by
  rw[Dj.eq_def] at h;simp only at h;by_cases h1:t.e≠0
  ·rw[if_pos h1] at h;cases h;exact h1
  rw[if_neg h1] at h;by_cases h2:t.sign≠0∨t.v.kind≠4
  ·rw[if_pos h2] at h;cases h;decide
  rw[if_neg h2] at h;cases r with
  |nil=>cases h
  |cons c r2=>
   simp only at h
   by_cases h3:c.e≠0
   ·rw[if_pos h3] at h;cases h;exact h3
   rw[if_neg h3] at h
   by_cases h4:c.sign≠58
   ·rw[if_pos h4] at h;cases h;decide
   rw[if_neg h4] at h
   cases hv:DH f (k+1) r2 with
   |none=>rw[hv] at h;cases h
   |some x=>
    rw[hv] at h
    cases x with
    |error e=>cases h;exact J2 f (k+1) r2 _ hv
    |ok z=>exact Lv f k _ _ _ _ _ e h
end
def XG{s}{e:Int}(h:FW s=.error e):e≠0:=by
 have h1:=I4 s;rw[h,I2] at h1;cases hx:DH (3*(Dh s 0).length+1) 0 (Dh s 0) with
 |none=>rw[hx] at h1;cases h1
 |some x=>
  rw[hx] at h1
  cases x with
  |error e=>cases h1;exact J2 _ _ _ _ hx
  |ok y=>
   simp only at h1
   split at h1
   ·cases h1
   ·split at h1
    ·rename_i q;cases h1;exact q
    ·split at h1<;>cases h1
     decide
def Oe{s}(h:Fu s=0):FW s=.ok (Cj s):=by
 unfold Fu at h;unfold Cj;cases hx:FW s with
 |ok v=>rfl
 |error e=>rw[hx] at h;exact absurd h (XG hx)
def wst:List Opn→Nat
 |[]=>0
 |o::st=>1+o.ks.length+BH o.l+wst st
def wM:Ma→Nat
 |.begin_ st ts=>wst st+wts ts
 |.pair o st ts=>wst (o::st)+wts ts
 |.behind st v ts=>wst st+BG v+wts ts
 |.shut o st ts=>wst (o::st)+wts ts
def Ky:Ma→List Tk
 |.begin_ _ ts=>ts
 |.pair _ _ ts=>ts
 |.behind _ _ ts=>ts
 |.shut _ _ ts=>ts
def Yv{m m':Ma}(h:BB m=some (.inl m'))(ho:∀t∈Ky m,OkT t):wM m'≤wM m∧∀t∈Ky m',OkT t:=by
 have hz:BH []=0:=Z;cases m with
 |begin_ st ts=>
  cases ts with
  |nil=>cases h
  |cons t r=>
   obtain⟨ht,hr⟩:=C4 ho
   rw[BB.eq_def] at h
   simp only at h
   repeat' split at h
   all_goals cases h
   ·exact⟨by simp only[wM,wts];rw[Vl ht];omega,hr⟩
   all_goals (simp only[Ky,wM,wst,wts,wtT,hz,Acs] at*;exact⟨by omega,hr⟩)
 |pair o st ts=>
  cases ts with
  |nil=>cases h
  |cons t r=>
   obtain⟨ht,hr⟩:=C4 ho
   rw[BB.eq_def] at h
   simp only at h
   repeat' split at h
   all_goals cases h
   simp only[Ky,wM,wst,wts,wtT,Acd,Adf] at*
   exact⟨by omega,fun u hu=>hr u (Aci _ hu)⟩
 |behind st v ts=>
  cases ts with
  |nil=>cases st<;>cases h
  |cons t r=>
   obtain⟨ht,hr⟩:=C4 ho
   cases st with
   |nil=>
    rw[BB.eq_def] at h
    simp only at h
    repeat' split at h
    all_goals cases h
   |cons o st=>
    rw[BB.eq_def] at h
    simp only at h
    repeat' split at h
    all_goals cases h
    ·simp only[Ky,wM,wst,wts,wtT,CD,F6] at*;exact⟨by omega,hr⟩
    ·simp only[Ky,wM,wst,wts,wtT,CD,F6] at*;exact⟨by omega,hr⟩
    ·simp only[Ky,wM,wst,wts,wtT,CD,F6] at*;exact⟨by omega,ho⟩
 |shut o st ts=>
  cases ts with
  |nil=>cases h
  |cons t r=>
   obtain⟨ht,hr⟩:=C4 ho
   rw[BB.eq_def] at h
   cases h
   have:=Sr o.nm o.ks o.l
   simp only[Ky,wM,wst,wts] at*
   exact⟨by omega,hr⟩
end Go.Gk.Jsn
end
section
namespace Go.Gk.Jsn
open Go Go.Gk Go.Gk.Val
attribute [local irreducible] gwp gws
def FJ{P}{Q:CZ}{ρ d L}{a:CO}(i:Nat)(M:Env→A0)(h1:gwp P a {Q with ex:=fun j=>if j=i then M else Q.ex j} ρ d L)(h2:∀ρ d L,M ρ d L→Q.ex i ρ d L):gwp P a Q ρ d L:=
 Fq a h1 (fun _ _ _ h=>h) (fun j ρ d L h=>by
  simp only at h;split at h
  ·rename_i e;subst e;exact h2 _ _ _ h
  ·exact h) (fun _ _ _ h=>h) Z
def Er{ρ d L}(i:Nat){M:Env→A0}(h:M ρ d L):(if i=i then M else fun _ _ _=>True) ρ d L:=by rw[if_pos Z];exact h
def Ft(v:V):List Value:=[vZ v.kind,vZ v.m,vZ v.e,Ag v.text,nV,nV]
def E1(s:List UInt8):V×Nat×Int:=match Hh (s.take (BD Cc s)) with
 |some k=>(MP k,BD Cc s,0)
 |none=>(V.zero,0,60)
def QW(P:Program)(f:FuncId):Prop:=∀{d s},s.length≤1000000→AO P f [Ag s] d (.tuple #[.agg (Ft (E1 s).1).toArray,vZ ((E1 s).2.1:Nat),vZ (E1 s).2.2])
def S4:Bo:=⟨40,[(.cell 2 (some 6)),(.tmp 3),(.tmp 4)],(sR (o1 2 (.alo (.agg #[(vZ 0),(vZ 0),(vZ 0),(Ag []),nV,nV]))<|o1 3 (.mv z0)<|o1 4 (.mv z0) .done) (sR (o1 5 (.mv z0) .done) (.seq (.block 0 (.loop (.seq (sR (om 6 5<|om 7 0<|o1 8 (.lens 7)<|ob 9 .lss 6 8<|om 10 9<|gT 11 10 0<|gT 12 10 5<|oT 13 10 (.sidx 11 12)<|oT 14 10 (.bin .geq 13 (.const (.int .u8 97)))<|gP 15 10 14<|om 16 15<|gT 17 16 0<|gT 18 16 5<|oT 19 16 (.sidx 17 18)<|oT 20 16 (.bin .leq 19 (.const (.int .u8 122)))<|gP 21 16 20 .done) (.cond 21 .skip (.exit 0))) (.block 1 (rG (om 22 5<|ob 23 .add 22 z1<|om 5 23 .done)))))) (.seq (sR (om 24 0<|om 25 5<|o1 26 (.sls 24 none (some 25)) .done) (.block 2 (sR (ob 28 .eql 26 (.const (Ag [110,117,108,108]))<|om 27 28 .done) (.cond 27 (sR (o1 29 (.bld [(0,1),(1,2),(3,1),(4,1),(5,1)] [(vZ 0),(vZ 0),(vZ 0),(Ag []),nV,nV] [])<|om 30 5<|o0 (.st 6 2 29)<|om 3 30<|o1 4 (.mv z0) .done) .ret) (sR (ob 32 .eql 26 (.const (Ag [102,97,108,115,101]))<|om 31 32 .done) (.cond 31 (sR (o1 33 (.bld [(0,1),(1,2),(3,1),(4,1),(5,1)] [(vZ 0),(vZ 0),(vZ 0),(Ag []),nV,nV] [(0,z1)])<|om 34 5<|o0 (.st 6 2 33)<|om 3 34<|o1 4 (.mv z0) .done) .ret) (sR (ob 36 .eql 26 (.const (Ag [116,114,117,101]))<|om 35 36 .done) (.cond 35 (sR (o1 37 (.bld [(0,1),(1,2),(3,1),(4,1),(5,1)] [(vZ 0),(vZ 0),(vZ 0),(Ag []),nV,nV] [(0,z2)])<|om 38 5<|o0 (.st 6 2 37)<|om 3 38<|o1 4 (.mv z0) .done) .ret) .skip)))))))) (sR (o1 39 (.bld [(0,1),(1,2),(3,1),(4,1),(5,1)] [(vZ 0),(vZ 0),(vZ 0),(Ag []),nV,nV] [])<|o0 (.st 6 2 39)<|o1 3 (.mv z0)<|o1 4 (.mv (kZ 60)) .done) .ret)))))⟩
def ZR{P f}(hd:dec P f=some S4):QW P f:=by
 intro d s hl;refine AO.of' hd (Aca Z) ?_;show gwp P _ _ _ _ _;(refine Aj<|BR (fun _ _=>Ab Z<|Bt Z<|AL Z<|Ax<|Am ?_));rename_i b2 T2;have hrl:=D5 Cc s;refine FJ 0 (fun ρ d' L'=>AZ ρ [(0,Ag s),(2,pZ b2),(5,vZ (BD Cc s:Nat))]∧d'=d∧L'=[bx b2 T2 z6]) ?_ ?_
 ·refine BP (α:=Nat) (fun k=>[(0,Ag s),(2,pZ b2),(5,vZ (k:Int))]) (fun k d' L'=>d'=d∧k≤s.length∧k≤BD Cc s∧L'=[bx b2 T2 z6]) (fun k=>s.length - k) 0 ⟨Z,Z,Z,trivial⟩ ⟨Z,Acu _,Acu _,Z⟩ ?_;rintro k ρ d' L' ⟨hdd,hk,hr,hL⟩;subst hdd;subst hL;have hat:=Iy Cc s k hr;by_cases hk2:k<s.length
  ·obtain⟨c,hc⟩:∃c,s[k]?=some c:=⟨_,Acf hk2⟩
   have hdr:s.drop k=c::s.drop (k+1):=by
    obtain⟨hlt,he⟩:=Acj.1 hc;rw[Acv hlt,he]
   rw[hdr,BD] at hat;have hcb:=UInt8.toNat_lt c;by_cases g1:97≤c.toNat
   ·by_cases g2:c.toNat≤122
    ·rw[if_pos (by simp[Cc,g1,g2])] at hat;refine Ap<|Ab Z<|Ak Z<|AX Z<|As Z Z<|Ac Z<|AA Z<|Aa Z<|Ak Z<|Aa Z<|Ab Z<|Aa Z<|AU k Z Z Z hc<|Aa Z<|A5 Z Z<|Ah Z Z<|Ac Z<|AA Z<|Aa Z<|Ak Z<|Aa Z<|Ab Z<|Aa Z<|AU k Z Z Z hc<|Aa Z<|BN Z Z<|Ah Z Z<|AE Z<|Ay<|Am<|Ar<|Ab Z<|AY Z Z<|AL Z ?_;exact⟨k+1,by omega,⟨Z,Z,Z,trivial⟩,Z,by omega,by omega,Z⟩
    ·rw[if_neg (by simp[Cc];omega)] at hat;refine Ap<|Ab Z<|Ak Z<|AX Z<|As Z Z<|Ac Z<|AA Z<|Aa Z<|Ak Z<|Aa Z<|Ab Z<|Aa Z<|AU k Z Z Z hc<|Aa Z<|A5 Z Z<|Ah Z Z<|Ac Z<|AA Z<|Aa Z<|Ak Z<|Aa Z<|Ab Z<|Aa Z<|AU k Z Z Z hc<|Aa Z<|BN Z Z<|Ah Z Z<|BM Z<|A6<|Er 0 ⟨⟨Z,Z,congrArg (Value.int .i64) (by omega),trivial⟩,Z,Z⟩
   ·rw[if_neg (by simp[Cc];omega)] at hat;refine Ap<|Ab Z<|Ak Z<|AX Z<|As Z Z<|Ac Z<|AA Z<|Aa Z<|Ak Z<|Aa Z<|Ab Z<|Aa Z<|AU k Z Z Z hc<|Aa Z<|A5 Z Z<|Ah Z Z<|Ac Z<|Aw Z<|Aq Z Z<|Aq Z Z<|Af Z Z<|EX Z<|A6<|Er 0 ⟨⟨Z,Z,congrArg (Value.int .i64) (by omega),trivial⟩,Z,Z⟩
  ·have:s.drop k=[]:=Adb (by omega);rw[this] at hat;have h0:BD Cc []=0:=Z;refine Ap<|Ab Z<|Ak Z<|AX Z<|As Z Z<|Ac Z<|Aw Z<|Aq Z Z<|Aq Z Z<|Af Z Z<|Ac Z<|Aq Z Z<|Aq Z Z<|Af Z Z<|EX Z<|A6<|Er 0 ⟨⟨Z,Z,congrArg (Value.int .i64) (by omega),trivial⟩,Z,Z⟩
 ·rintro ρ d' L' ⟨hs,hdd,hL⟩;subst hdd;subst hL;show gwp P _ _ _ _ _;refine A4 _ hs ?_;clear hs;have hwl:=D5 Cc s;refine Ap<|Ak Z<|Ab Z<|It (n:=BD Cc s) Z Z Z hwl<|Av<|Am<|Aj<|CS Z Z<|Ao Z ?_;unfold E1 Hh;generalize hg:s.take (BD Cc s)=g at*;by_cases h1:g=[110,117,108,108]
  ·rw[if_pos h1];refine Bn Z<|Aj<|Bs<|Ab Z<|Au 0 _ Z Z Z Z (Aca Z) Z Z<|Ab Z<|AM Z<|Ba [.agg (Ft (MP 0)).toArray,vZ (BD Cc s:Nat),vZ 0] ⟨Bc 0 Z Z Z,Z,Z,trivial⟩ (Acb _) ⟨Z,Z⟩
  by_cases h2:g=[102,97,108,115,101]
  ·rw[if_neg h1,if_pos h2];refine AH Z<|Aj<|CS Z Z<|Ao Z<|Bn Z<|Aj<|Oz Z<|Ab Z<|Au 0 _ Z Z Z Z (Aca Z) Z Z<|Ab Z<|AM Z<|Ba [.agg (Ft (MP 1)).toArray,vZ (BD Cc s:Nat),vZ 0] ⟨Bc 0 Z Z Z,Z,Z,trivial⟩ (Acb _) ⟨Z,Z⟩
  by_cases h3:g=[116,114,117,101]
  ·rw[if_neg h1,if_neg h2,if_pos h3];refine AH Z<|Aj<|CS Z Z<|Ao Z<|AH Z<|Aj<|CS Z Z<|Ao Z<|Bn Z<|Aj<|Oz Z<|Ab Z<|Au 0 _ Z Z Z Z (Aca Z) Z Z<|Ab Z<|AM Z<|Ba [.agg (Ft (MP 2)).toArray,vZ (BD Cc s:Nat),vZ 0] ⟨Bc 0 Z Z Z,Z,Z,trivial⟩ (Acb _) ⟨Z,Z⟩
  ·rw[if_neg h1,if_neg h2,if_neg h3];refine AH Z<|Aj<|CS Z Z<|Ao Z<|AH Z<|Aj<|CS Z Z<|Ao Z<|AH Z<|Ay<|Aj<|Bs<|Au 0 _ Z Z Z Z (Aca Z) Z Z<|Ab Z<|AM Z<|Ba [.agg (Ft V.zero).toArray,vZ 0,vZ 60] ⟨Bc 0 Z Z Z,Z,Z,trivial⟩ (Acb _) ⟨Z,Z⟩
def Hr(T:Ad→Prop)(P:Program)(f:FuncId):Prop:=∀{d s},T d→s.length≤900000→AO P f [Ag s] d (.tuple #[.agg [vZ (DX s).1,vZ (DX s).2.1].toArray,vZ (DX s).2.2])
def FV(s:List UInt8):V×Nat×Int:=(MC (DX (s.take (BD CY s))).1 (DX (s.take (BD CY s))).2.1,BD CY s,(DX (s.take (BD CY s))).2.2)
def Q4(T:Ad→Prop)(P:Program)(f:FuncId):Prop:=∀{d s},T d→s.length≤900000→AO P f [Ag s] d (.tuple #[.agg (Ft (FV s).1).toArray,vZ ((FV s).2.1:Nat),vZ (FV s).2.2])
def Ql(a0 a1:Nat):Bo:=⟨32,[(.cell 2 (some 6)),(.tmp 3),(.tmp 4)],(sR (o1 2 (.alo (.agg #[(vZ 0),(vZ 0),(vZ 0),(Ag []),nV,nV]))<|o1 3 (.mv z0)<|o1 4 (.mv z0) .done) (sR (o1 5 (.mv z0) .done) (.seq (.block 0 (.loop (.seq (sR (om 8 5<|om 9 0<|o1 10 (.lens 9)<|ob 11 .lss 8 10<|om 12 11<|gT 13 12 0<|gT 14 12 5<|oT 15 12 (.sidx 13 14)<|oT 16 12 (.call a0 [(.const (Ag [48,49,50,51,52,53,54,55,56,57,43,45,46,101,69])),15])<|oT 17 12 (.bin .geq 16 z0)<|gP 18 12 17 .done) (.cond 18 .skip (.exit 0))) (.block 1 (rG (om 19 5<|ob 20 .add 19 z1<|om 5 20 .done)))))) (sR (om 22 0<|om 23 5<|o1 24 (.sls 22 none (some 23))<|oc 25 a1 [24]<|om 21 25<|oe 26 21 0<|oe 27 21 1<|o1 6 (.alo (.agg #[(vZ 0),(vZ 0)]))<|o0 (.st 2 6 26)<|om 7 27 .done) (sR (o1 28 (.ld (some 2) 6)<|o1 29 (.bld [(0,1),(1,2),(3,1),(4,1),(5,1)] [(vZ 0),(vZ 0),(vZ 0),(Ag []),nV,nV] [(0,(kZ 3)),(1,28)])<|om 30 5<|om 31 7<|o0 (.st 6 2 29)<|om 3 30<|om 4 31 .done) .ret)))))⟩
def Z1{T:Ad→Prop}{P f f1 f2}(hd:dec P f=some (Ql f1 f2))(h1:Oc P f1)(h2:Hr T P f2):Q4 T P f:=by
 intro d s ht hl;refine AO.of' hd (Aca Z) ?_;show gwp P _ _ _ _ _;(refine Aj<|BR (fun _ _=>Ab Z<|Bt Z<|AL Z<|Ax<|Am ?_));rename_i b2 T2;have hrl:=D5 CY s;refine FJ 0 (fun ρ d' L'=>AZ ρ [(0,Ag s),(2,pZ b2),(5,vZ (BD CY s:Nat))]∧d'=d∧L'=[bx b2 T2 z6]) ?_ ?_
 ·refine BP (α:=Nat) (fun k=>[(0,Ag s),(2,pZ b2),(5,vZ (k:Int))]) (fun k d' L'=>d'=d∧k≤s.length∧k≤BD CY s∧L'=[bx b2 T2 z6]) (fun k=>s.length - k) 0 ⟨Z,Z,Z,trivial⟩ ⟨Z,Acu _,Acu _,Z⟩ ?_;rintro k ρ d' L' ⟨hdd,hk,hr,hL⟩;subst hdd;subst hL;have hat:=Iy CY s k hr;by_cases hk2:k<s.length
  ·obtain⟨c,hc⟩:∃c,s[k]?=some c:=⟨_,Acf hk2⟩
   have hdr:s.drop k=c::s.drop (k+1):=by
    obtain⟨hlt,he⟩:=Acj.1 hc;rw[Acv hlt,he]
   rw[hdr,BD] at hat;have hin:= @R0 c [48,49,50,51,52,53,54,55,56,57,43,45,46,101,69]
   by_cases g1:c∈([48,49,50,51,52,53,54,55,56,57,43,45,46,101,69]:List UInt8)
   ·rw[if_pos (by rw[CY,decide_eq_true_eq];exact g1)] at hat;have g2:=hin.2 g1;clear hin g1;generalize hix:Lib.indexByte [48,49,50,51,52,53,54,55,56,57,43,45,46,101,69] c=ix at g2;have p1:=h1 (d:=d') (l:=[48,49,50,51,52,53,54,55,56,57,43,45,46,101,69]) (c:=c);rw[hix] at p1;refine Ap<|Ab Z<|Ak Z<|AX Z<|As Z Z<|Ac Z<|AA Z<|Aa Z<|Ak Z<|Aa Z<|Ab Z<|Aa Z<|AU k Z Z Z hc ?_;(apply Aa;rfl);refine AG Z p1<|Aa Z<|A5 Z Z<|Ah Z Z<|AE Z<|Ay<|Am<|Ar<|Ab Z<|AY Z Z<|AL Z ?_;exact⟨k+1,by omega,⟨Z,Z,Z,trivial⟩,Z,by omega,by omega,Z⟩
   ·rw[if_neg (by rw[CY,decide_eq_true_eq];exact g1)] at hat;have g2:=fun q=>g1 (hin.1 q);clear hin g1;generalize hix:Lib.indexByte [48,49,50,51,52,53,54,55,56,57,43,45,46,101,69] c=ix at g2;have p1:=h1 (d:=d') (l:=[48,49,50,51,52,53,54,55,56,57,43,45,46,101,69]) (c:=c);rw[hix] at p1;refine Ap<|Ab Z<|Ak Z<|AX Z<|As Z Z<|Ac Z<|AA Z<|Aa Z<|Ak Z<|Aa Z<|Ab Z<|Aa Z<|AU k Z Z Z hc ?_;(apply Aa;rfl);refine AG Z p1<|Aa Z<|A5 Z Z<|Ah Z Z<|BM Z<|A6<|Er 0 ⟨⟨Z,Z,congrArg (Value.int .i64) (by omega),trivial⟩,Z,Z⟩
  ·have:s.drop k=[]:=Adb (by omega);rw[this] at hat;have h0:BD CY []=0:=Z;refine Ap<|Ab Z<|Ak Z<|AX Z<|As Z Z<|Ac Z<|Aw Z<|Aq Z Z<|Aq Z Z<|AF Z<|Af Z Z<|EX Z<|A6<|Er 0 ⟨⟨Z,Z,congrArg (Value.int .i64) (by omega),trivial⟩,Z,Z⟩
 ·rintro ρ d' L' ⟨hs,hdd,hL⟩;subst hdd;subst hL;show gwp P _ _ _ _ _;refine A4 _ hs ?_;clear hs;have hwl:=D5 CY s;refine Aj<|Ak Z<|Ab Z<|It (n:=BD CY s) Z Z Z hwl<|AG Z (h2 ht (by rw[Aco];omega))<|Bm Z<|Bx Z Z Z Z<|BR (fun _ _=>?_);rename_i b6 T6;refine Au 0 [vZ (DX (s.take (BD CY s))).1,vZ (DX (s.take (BD CY s))).2.1] Z Z Z Z (Aca Z) Z Z<|Bt Z<|AP 0 Z Z Z<|B2 Z<|Ab Z<|Ab Z<|Au 1 _ Z Z Z Z (Aca Z) Z Z<|Ab Z<|AM Z<|Ba [.agg (Ft (FV s).1).toArray,vZ (BD CY s:Nat),vZ (FV s).2.2] ⟨Bc 1 Z Z Z,Z,Z,trivial⟩ (Acb _) ⟨Z,Z⟩
end Go.Gk.Jsn
end
section
namespace Go.Gk.Jsn
open Go Go.Gk Go.Lib
attribute [local irreducible] gwp gws
def FT(s:List UInt8):Nat→Int
 |0=>0
 |k+1=>FT s k*16+CW (s.getD k 0)
def O2{s}:∀k,(∀i<k,0≤CW (s.getD i 0))→0≤FT s k∧FT s k<16 ^ k
 |0,_=>⟨Afv _,by show(0:Int)<1;omega⟩
 |k+1,h=>by
  have h1:=O2 k (fun i hi=>h i (by omega));have h2:=h k (by omega);have h3:=HH (s.getD k 0);have e:(16:Int)^(k+1)=16 ^ k*16:=by rw[Int.pow_succ]
  rw[FT,e];omega
def R7{s}(hl:4≤s.length):Cp s=if (∀i<4,0≤CW (s.getD i 0)) then FT s 4 else -1:=by
 match s,hl with
 |a::b::c::d::r,_=>
  rw[Cp]
  by_cases h:CW a<0∨CW b<0∨CW c<0∨CW d<0
  ·rw[if_pos h,if_neg]
   intro q
   have q0:=q 0 (by omega);have q1:=q 1 (by omega);have q2:=q 2 (by omega);have q3:=q 3 (by omega)
   simp at q0 q1 q2 q3
   omega
  ·rw[if_neg h,if_pos]
   ·simp[FT]
   ·intro i hi
    match i,hi with
    |0,_=>simp;omega
    |1,_=>simp;omega
    |2,_=>simp;omega
    |3,_=>simp;omega
def Si(P:Program)(f:FuncId):Prop:=∀{d s},s.length≤100000000→AO P f [Ag s] d (.tuple #[.int .i32 (if Cp s<0 then 0 else Cp s),.bool (decide (0≤Cp s))])
def RB:Bo:=⟨59,[(.tmp 2),(.tmp 3)],(sR (o1 2 (.mv (.const (.int .i32 0)))<|o1 3 (.mv (.const (.bool false))) .done) (.seq (sR (om 7 0<|o1 8 (.lens 7)<|ob 9 .lss 8 (kZ 4) .done) (.cond 9 (sR (o1 2 (.mv (.const (.int .i32 0)))<|o1 3 (.mv (.const (.bool false))) .done) .ret) .skip)) (sR (o1 4 (.mv (.const (.int .i32 0))) .done) (.seq (sR (o1 10 (.mv z0) .done) (.block 0 (.loop (sR (ob 11 .lss 10 (kZ 4) .done) (.seq (.cond 11 .skip (.exit 0)) (.seq (.block 1 (sR (om 12 10<|om 5 12 .done) (sR (om 13 0<|om 14 5<|o1 15 (.sidx 13 14)<|om 6 15 .done) (.block 2 (sR (om 17 6<|ob 18 .geq 17 (.const (.int .u8 48))<|om 19 18<|gT 20 19 6<|oT 21 19 (.bin .leq 20 (.const (.int .u8 57)))<|gP 22 19 21<|om 16 22 .done) (.cond 16 (rG (om 23 4<|ob 24 .shl 23 (.const (.int .u64 4))<|om 25 6<|ob 26 .sub 25 (.const (.int .u8 48))<|o1 27 (.cvi .i32 26)<|ob 28 .or 24 27<|om 4 28 .done)) (sR (om 30 6<|ob 31 .geq 30 (.const (.int .u8 97))<|om 32 31<|gT 33 32 6<|oT 34 32 (.bin .leq 33 (.const (.int .u8 102)))<|gP 35 32 34<|om 29 35 .done) (.cond 29 (rG (om 36 4<|ob 37 .shl 36 (.const (.int .u64 4))<|om 38 6<|ob 39 .sub 38 (.const (.int .u8 97))<|ob 40 .add 39 (.const (.int .u8 10))<|o1 41 (.cvi .i32 40)<|ob 42 .or 37 41<|om 4 42 .done)) (sR (om 44 6<|ob 45 .geq 44 (.const (.int .u8 65))<|om 46 45<|gT 47 46 6<|oT 48 46 (.bin .leq 47 (.const (.int .u8 70)))<|gP 49 46 48<|om 43 49 .done) (.cond 43 (rG (om 50 4<|ob 51 .shl 50 (.const (.int .u64 4))<|om 52 6<|ob 53 .sub 52 (.const (.int .u8 65))<|ob 54 .add 53 (.const (.int .u8 10))<|o1 55 (.cvi .i32 54)<|ob 56 .or 51 55<|om 4 56 .done)) (sR (o1 2 (.mv (.const (.int .i32 0)))<|o1 3 (.mv (.const (.bool false))) .done) .ret))))))))))) (rG (ob 57 .add 10 z1<|om 10 57 .done)))))))) (sR (om 58 4<|om 2 58<|o1 3 (.mv (.const (.bool true))) .done) .ret)))))⟩
set_option maxHeartbeats 1000000 in
def ZE{P f}(hd:dec P f=some RB):Si P f:=by
 intro d s hl;refine AO.of' hd (Aca Z) ?_;show gwp P _ _ _ _ _;by_cases h4:s.length<4
 ·have e:Cp s= -1:=Classical.byContradiction fun q=>by have:=G3 q;omega
  rw[e];refine AD Z<|Ao Z<|Ap<|Ak Z<|AX Z<|As Z Z<|AE Z<|AD Z<|Bk Z<|Ba [.int .i32 0,.bool false] ⟨Z,Z,trivial⟩ (Acb _) ⟨Z,Z⟩
 ·rw[R7 (by omega)];refine AD Z<|Ao Z<|Ap<|Ak Z<|AX Z<|As Z Z<|AJ Z<|AD Z<|Bw<|AL Z<|Am<|BP (α:=Nat) (fun k=>[(0,Ag s),(4,.int .i32 (FT s k)),(10,vZ (k:Int))])
   (fun k d' L'=>d'=d∧k≤4∧(∀i<k,0≤CW (s.getD i 0))∧L'=[])
   (fun k=>4 - k) 0 ⟨Z,Z,Z,trivial⟩ ⟨Z,by omega,fun i hi=>by omega,Z⟩ ?_
  rintro k ρ d' L' ⟨hdd,hk,hd,hL⟩;subst hdd;subst hL;have hv:=O2 k hd;by_cases hk4:k<4
  ·have hv2:FT s k<65536:=by
    have:(16:Int)^ k≤16 ^ 3:=by
     rcases (by omega:k=0∨k=1∨k=2∨k=3) with rfl|rfl|rfl|rfl<;>decide
    omega
   have hg:s[k]?=some (s.getD k 0):=by rw[List.getD_eq_getElem?_getD,Acf (by omega)];rfl
   have hx:FT s (k+1)=FT s k*16+CW (s.getD k 0):=Z;generalize hc:s.getD k 0=c at*;have hcb:=UInt8.toNat_lt c;refine Aj<|As Z Z<|Cr<|Bn Z<|Ay<|Ax<|Am<|AD Z<|Bt Z<|Ak Z<|Ab Z<|AU k Z Z Z hg ?_;have nxt:0≤CW c→∀i<k+1,0≤CW (s.getD i 0):=fun h i hi=>by
    by_cases e:i=k
    ·subst e;rw[hc];exact h
    ·exact hd i (by omega)
   by_cases c1:48≤c.toNat∧c.toNat≤57
   ·obtain⟨ca,cb⟩:=c1;have hD:CW c=c.toNat - 48:=by unfold CW;rw[if_pos ⟨ca,cb⟩]
    refine AL Z<|Am<|AD Z<|A5 Z Z<|Ac Z<|AA Z<|Aa Z<|Ab Z<|Aa Z<|BN Z Z<|Ah Z Z<|Ao Z<|Bn Z<|Ar<|Ab Z<|Ox 4 Z Z (by decide) hv.1 (by omega) ?_;(apply Ab;rfl);refine JQ Z Z (by omega) (by omega)<|JU Z (by omega) (by omega)<|U7 4 (FT s k).toNat (c.toNat - 48) Z Z (by omega) (by omega) (by omega) (by omega)<|AL Z<|Ar<|AY Z Z<|AL Z ?_;exact⟨k+1,by omega,⟨Z,congrArg (Value.int .i32) (by rw[hx,hD];omega),congrArg (Value.int .i64) (by omega),trivial⟩,Z,by omega,nxt (by rw[hD];omega),Z⟩
   by_cases c2:97≤c.toNat∧c.toNat≤102
   ·obtain⟨ca,cb⟩:=c2;have hD:CW c=c.toNat - 87:=by unfold CW;rw[if_neg (by omega),if_pos ⟨ca,cb⟩]
    refine AL Z<|Am<|AD Z<|A5 Z Z<|Ac Z<|AA Z<|Aa Z<|Ab Z<|Aa Z<|BN Z Z<|Ah Z Z<|Ao Z<|AH Z<|AD Z<|A5 Z Z<|Ac Z<|AA Z<|Aa Z<|Ab Z<|Aa Z<|BN Z Z<|Ah Z Z<|Ao Z<|Bn Z<|Ar<|Ab Z<|Ox 4 Z Z (by decide) hv.1 (by omega) ?_;(apply Ab;rfl);refine JQ Z Z (by omega) (by omega)<|Rn Z Z (by omega) (by omega)<|JU Z (by omega) (by omega)<|U7 4 (FT s k).toNat (c.toNat - 87) Z Z (by omega) (by omega) (by omega) (by omega)<|AL Z<|Ar<|AY Z Z<|AL Z ?_;exact⟨k+1,by omega,⟨Z,congrArg (Value.int .i32) (by rw[hx,hD];omega),congrArg (Value.int .i64) (by omega),trivial⟩,Z,by omega,nxt (by rw[hD];omega),Z⟩
   by_cases c3:65≤c.toNat∧c.toNat≤70
   ·obtain⟨ca,cb⟩:=c3;have hD:CW c=c.toNat - 55:=by unfold CW;rw[if_neg (by omega),if_neg (by omega),if_pos ⟨ca,cb⟩]
    refine AL Z<|Am<|AD Z<|A5 Z Z<|Ac Z<|AA Z<|Aa Z<|Ab Z<|Aa Z<|BN Z Z<|Ah Z Z<|Ao Z<|AH Z<|AD Z<|A5 Z Z<|Ac Z<|Aw Z<|Aq Z Z<|Af Z Z<|Ao Z<|A7 Z<|AD Z<|A5 Z Z<|Ac Z<|AA Z<|Aa Z<|Ab Z<|Aa Z<|BN Z Z<|Ah Z Z<|Ao Z<|Bn Z<|Ar<|Ab Z<|Ox 4 Z Z (by decide) hv.1 (by omega) ?_;(apply Ab;rfl);refine JQ Z Z (by omega) (by omega)<|Rn Z Z (by omega) (by omega)<|JU Z (by omega) (by omega)<|U7 4 (FT s k).toNat (c.toNat - 55) Z Z (by omega) (by omega) (by omega) (by omega)<|AL Z<|Ar<|AY Z Z<|AL Z ?_;exact⟨k+1,by omega,⟨Z,congrArg (Value.int .i32) (by rw[hx,hD];omega),congrArg (Value.int .i64) (by omega),trivial⟩,Z,by omega,nxt (by rw[hD];omega),Z⟩
   ·have hD:CW c= -1:=by unfold CW;rw[if_neg c1,if_neg c2,if_neg c3]
    have hno:¬∀i<4,0≤CW (s.getD i 0):=fun q=>by have:=q k hk4;rw[hc,hD] at this;omega
    rw[if_neg hno];rcases (by omega:c.toNat<48∨(57<c.toNat∧c.toNat<65)∨(70<c.toNat∧c.toNat<97)∨102<c.toNat) with g|g|g|g
    ·refine AL Z<|Am<|AD Z<|A5 Z Z<|Ac Z<|Aw Z<|Aq Z Z<|Af Z Z<|Ao Z<|A7 Z<|AD Z<|A5 Z Z<|Ac Z<|Aw Z<|Aq Z Z<|Af Z Z<|Ao Z<|A7 Z<|AD Z<|A5 Z Z<|Ac Z<|Aw Z<|Aq Z Z<|Af Z Z<|Ao Z<|A7 Z<|AD Z<|Bk Z<|Ba [.int .i32 0,.bool false] ⟨Z,Z,trivial⟩ (Acb _) ⟨Z,Z⟩
    ·refine AL Z<|Am<|AD Z<|A5 Z Z<|Ac Z<|AA Z<|Aa Z<|Ab Z<|Aa Z<|BN Z Z<|Ah Z Z<|Ao Z<|AH Z<|AD Z<|A5 Z Z<|Ac Z<|Aw Z<|Aq Z Z<|Af Z Z<|Ao Z<|A7 Z<|AD Z<|A5 Z Z<|Ac Z<|Aw Z<|Aq Z Z<|Af Z Z<|Ao Z<|A7 Z<|AD Z<|Bk Z<|Ba [.int .i32 0,.bool false] ⟨Z,Z,trivial⟩ (Acb _) ⟨Z,Z⟩
    ·refine AL Z<|Am<|AD Z<|A5 Z Z<|Ac Z<|AA Z<|Aa Z<|Ab Z<|Aa Z<|BN Z Z<|Ah Z Z<|Ao Z<|AH Z<|AD Z<|A5 Z Z<|Ac Z<|Aw Z<|Aq Z Z<|Af Z Z<|Ao Z<|A7 Z<|AD Z<|A5 Z Z<|Ac Z<|AA Z<|Aa Z<|Ab Z<|Aa Z<|BN Z Z<|Ah Z Z<|Ao Z<|AH Z<|AD Z<|Bk Z<|Ba [.int .i32 0,.bool false] ⟨Z,Z,trivial⟩ (Acb _) ⟨Z,Z⟩
    ·refine AL Z<|Am<|AD Z<|A5 Z Z<|Ac Z<|AA Z<|Aa Z<|Ab Z<|Aa Z<|BN Z Z<|Ah Z Z<|Ao Z<|AH Z<|AD Z<|A5 Z Z<|Ac Z<|AA Z<|Aa Z<|Ab Z<|Aa Z<|BN Z Z<|Ah Z Z<|Ao Z<|AH Z<|AD Z<|A5 Z Z<|Ac Z<|AA Z<|Aa Z<|Ab Z<|Aa Z<|BN Z Z<|Ah Z Z<|Ao Z<|AH Z<|AD Z<|Bk Z<|Ba [.int .i32 0,.bool false] ⟨Z,Z,trivial⟩ (Acb _) ⟨Z,Z⟩
  ·(refine Aj<|As Z Z<|Cr<|AH Z<|A6<|AD Z<|Ab Z<|Bk Z ?_);have e4:k=4:=by omega
   subst e4;rw[if_pos hd];have h0:=hv.1;exact Ba [.int .i32 (FT s 4),.bool true] ⟨Z,Z,trivial⟩ (Acb _) ⟨by rw[if_neg (by omega),decide_eq_true h0];rfl,Z⟩
def UR(P:Program)(f:FuncId):Prop:=∀{d s},s.length≤100000000→AO P f [Ag s] d (.tuple #[.int .i32 (Dw s).1,vZ ((Dw s).2:Nat),.bool (decide ((Dw s).2≠0))])
def OI(a0:Nat):Bo:=⟨66,[(.tmp 2),(.tmp 3),(.tmp 4)],(sR (o1 2 (.mv (.const (.int .i32 0)))<|o1 3 (.mv z0)<|o1 4 (.mv (.const (.bool false))) .done) (sR (om 9 0<|oc 10 a0 [9]<|om 8 10<|oe 11 8 0<|oe 12 8 1<|om 5 11<|om 6 12 .done) (.seq (sR (om 13 6<|o1 14 (.un .not 13)<|om 15 14<|gF 16 15 5<|oF 17 15 (.bin .geq 16 (.const (.int .i32 56320)))<|gF 18 15 17<|gT 19 18 5<|oT 20 18 (.bin .lss 19 (.const (.int .i32 57344)))<|oF 21 15 (.pick 18 20 (.const (.bool false)))<|o1 22 (.pick 15 (.const (.bool true)) 21) .done) (.cond 22 (sR (o1 2 (.mv (.const (.int .i32 0)))<|o1 3 (.mv z0)<|o1 4 (.mv (.const (.bool false))) .done) .ret) .skip)) (.seq (sR (om 23 5<|ob 24 .lss 23 (.const (.int .i32 55296))<|om 25 24<|gF 26 25 5<|oF 27 25 (.bin .geq 26 (.const (.int .i32 57344)))<|o1 28 (.pick 25 (.const (.bool true)) 27) .done) (.cond 28 (sR (om 29 5<|om 2 29<|o1 3 (.mv (kZ 4))<|o1 4 (.mv (.const (.bool true))) .done) .ret) .skip)) (.seq (sR (om 30 0<|o1 31 (.lens 30)<|ob 32 .lss 31 (kZ 6)<|om 33 32<|gF 34 33 0<|oF 35 33 (.sidx 34 (kZ 4))<|oF 36 33 (.bin .neq 35 (.const (.int .u8 92)))<|o1 37 (.pick 33 (.const (.bool true)) 36)<|om 38 37<|gF 39 38 0<|oF 40 38 (.sidx 39 (kZ 5))<|oF 41 38 (.bin .neq 40 (.const (.int .u8 117)))<|o1 42 (.pick 38 (.const (.bool true)) 41) .done) (.cond 42 (sR (o1 2 (.mv (.const (.int .i32 0)))<|o1 3 (.mv z0)<|o1 4 (.mv (.const (.bool false))) .done) .ret) .skip)) (sR (om 44 0<|o1 45 (.sls 44 (some (kZ 6)) none)<|oc 46 a0 [45]<|om 43 46<|oe 47 43 0<|oe 48 43 1<|om 7 47<|om 6 48 .done) (.seq (sR (om 49 6<|o1 50 (.un .not 49)<|om 51 50<|gF 52 51 7<|oF 53 51 (.bin .lss 52 (.const (.int .i32 56320)))<|o1 54 (.pick 51 (.const (.bool true)) 53)<|om 55 54<|gF 56 55 7<|oF 57 55 (.bin .geq 56 (.const (.int .i32 57344)))<|o1 58 (.pick 55 (.const (.bool true)) 57) .done) (.cond 58 (sR (o1 2 (.mv (.const (.int .i32 0)))<|o1 3 (.mv z0)<|o1 4 (.mv (.const (.bool false))) .done) .ret) .skip)) (sR (om 59 5<|ob 60 .sub 59 (.const (.int .i32 55296))<|ob 61 .shl 60 (.const (.int .u64 10))<|ob 62 .add (.const (.int .i32 65536)) 61<|om 63 7<|ob 64 .add 62 63<|ob 65 .sub 64 (.const (.int .i32 56320))<|om 2 65<|o1 3 (.mv (kZ 10))<|o1 4 (.mv (.const (.bool true))) .done) .ret))))))))⟩
set_option maxHeartbeats 1000000 in
def Aai{P f f1}(hd:dec P f=some (OI f1))(h1:Si P f1):UR P f:=by
 intro d s hl;have hf:=Hm s;have hg:=Hm (s.drop 6);have hfl:= @G3 s
 have p1:=h1 (d:=d) hl;have p2:=h1 (d:=d) (s:=s.drop 6) (by rw[Acl];omega);have bad:∀ρ:Env,ρ 2=.int .i32 0→ρ 3=vZ 0→ρ 4=.bool false→Dw s=(0,0)→Cb [.tmp 2,.tmp 3,.tmp 4] (Ret fun r _ L'=>r=.tuple #[.int .i32 (Dw s).1,vZ ((Dw s).2:Nat),.bool (decide ((Dw s).2≠0))]∧L'=[]) ρ d []:=fun ρ e2 e3 e4 e=>by
  rw[e];exact Ba [.int .i32 0,vZ 0,.bool false] ⟨e2.symm,e3.symm,e4.symm,trivial⟩ (Acb _) ⟨Z,Z⟩
 refine AO.of' hd (Aca Z) ?_;show gwp P _ _ _ _ _;have hU:Dw s=(if Cp s<0∨(56320≤Cp s∧Cp s≤57343) then(0,0) else if Cp s<55296∨57343<Cp s then(Cp s,4) else
  if (if s[4]?=some 92∧s[5]?=some 117 then Cp (s.drop 6) else -1)<56320∨57343<(if s[4]?=some 92∧s[5]?=some 117 then Cp (s.drop 6) else -1) then(0,0) else(65536+(Cp s - 55296)*1024+(if s[4]?=some 92∧s[5]?=some 117 then Cp (s.drop 6) else -1) - 56320,10)):=Z
 generalize Cp s=a at*;generalize Cp (s.drop 6)=b at*;refine AD Z<|Ab Z<|Ao Z<|Aj<|Ak Z<|AG Z p1 ?_;by_cases c1:a<0
 ·rw[if_pos c1,decide_eq_false (by omega:¬0≤a)];refine Bm Z<|Bx Z Z Z Z<|Ab Z<|Ao Z<|Ap<|Ac Z<|Bu Z<|Ac Z<|Aq Z Z<|AF Z<|AN Z<|AN Z<|AF Z<|Ah Z Z<|BK Z<|AD Z<|Ab Z<|Bk Z<|bad _ Z Z Z (by rw[hU,if_pos (.inl c1)])
 rw[if_neg c1,decide_eq_true (by omega:0≤a)];have good:∀(r:Int) (n:Nat) (ρ:Env),ρ 2=.int .i32 r→ρ 3=vZ (n:Int)→ρ 4=.bool true→n≠0→Dw s=(r,n)→Cb [.tmp 2,.tmp 3,.tmp 4] (Ret fun r _ L'=>r=.tuple #[.int .i32 (Dw s).1,vZ ((Dw s).2:Nat),.bool (decide ((Dw s).2≠0))]∧L'=[]) ρ d []:=fun r n ρ e2 e3 e4 hn e=>by
  rw[e,decide_eq_true hn];exact Ba [.int .i32 r,vZ (n:Int),.bool true] ⟨e2.symm,e3.symm,e4.symm,trivial⟩ (Acb _) ⟨Z,Z⟩
 by_cases c2:56320≤a
 ·by_cases c3:a≤57343
  ·refine Bm Z<|Bx Z Z Z Z<|Ab Z<|Ao Z<|Ap<|Ac Z<|Bu Z<|Ac Z<|Aa Z<|Ab Z<|Aa Z<|A5 Z Z<|Aa Z<|Ac Z<|AA Z<|Aa Z<|Ab Z<|Aa Z<|As Z Z<|Aa Z<|Ah Z Z<|Af Z Z<|AE Z<|AD Z<|Ab Z<|Bk Z<|bad _ Z Z Z (by rw[hU,if_pos (.inr ⟨c2,c3⟩)])
  ·refine Bm Z<|Bx Z Z Z Z<|Ab Z<|Ao Z<|Ap<|Ac Z<|Bu Z<|Ac Z<|Aa Z<|Ab Z<|Aa Z<|A5 Z Z<|Aa Z<|Ac Z<|AA Z<|Aa Z<|Ab Z<|Aa Z<|As Z Z<|Aa Z<|Ah Z Z<|Af Z Z<|AJ Z<|Ap<|Ab Z<|As Z Z<|Ac Z<|Aw Z<|Aa Z<|Ab Z<|Aa Z<|A5 Z Z<|Af Z Z<|AE Z<|AD Z<|Ab Z<|Ab Z<|Bk Z<|good a 4 _ Z Z Z (by decide) (by rw[hU,if_neg (by omega),if_pos (.inr (by omega))])
 by_cases c4:a<55296
 ·refine Bm Z<|Bx Z Z Z Z<|Ab Z<|Ao Z<|Ap<|Ac Z<|Bu Z<|Ac Z<|Aa Z<|Ab Z<|Aa Z<|A5 Z Z<|Aa Z<|Ac Z<|Aw Z<|Aq Z Z<|Aa Z<|Af Z Z<|Af Z Z<|Bh Z<|Ap<|Ab Z<|As Z Z<|Ac Z<|AA Z<|Aq Z Z<|Ah Z Z<|BK Z<|AD Z<|Ab Z<|Ab Z<|Bk Z<|good a 4 _ Z Z Z (by decide) (by rw[hU,if_neg (by omega),if_pos (.inl c4)])
 rw[if_neg (by omega),if_neg (by omega)] at hU;generalize hbb:(if s[4]?=some 92∧s[5]?=some 117 then b else -1)=bb at hU;by_cases c5:s.length<6
 ·rw[if_neg (fun q=>by have:=Acz (l:=s) (i:=5) (by omega);rw[this] at q;cases q.2)] at hbb;refine Bm Z<|Bx Z Z Z Z<|Ab Z<|Ao Z<|Ap<|Ac Z<|Bu Z<|Ac Z<|Aa Z<|Ab Z<|Aa Z<|A5 Z Z<|Aa Z<|Ac Z<|Aw Z<|Aq Z Z<|Aa Z<|Af Z Z<|Af Z Z<|Bh Z<|Ap<|Ab Z<|As Z Z<|Ac Z<|Aw Z<|Aa Z<|Ab Z<|Aa Z<|A5 Z Z<|Af Z Z<|AJ Z<|Ap<|Ak Z<|AX Z<|As Z Z<|Ac Z<|AA Z<|Aq Z Z<|AF Z<|Ah Z Z<|Ac Z<|Aq Z Z<|AF Z<|Ah Z Z<|BK Z<|AD Z<|Ab Z<|Bk Z<|bad _ Z Z Z (by rw[hU,if_pos (.inl (by omega))])
 ·obtain⟨x4,hx4⟩:∃x,s[4]?=some x:=⟨_,Acf (by omega)⟩
  obtain⟨x5,hx5⟩:∃x,s[5]?=some x:=⟨_,Acf (by omega)⟩
  have e92:(92:UInt8).toNat=92:=Z;have e117:(117:UInt8).toNat=117:=Z;have u4:=UInt8.toNat_lt x4;have u5:=UInt8.toNat_lt x5;by_cases c6:x4=92
  ·subst c6;by_cases c7:x5=117
   ·subst c7;rw[if_pos ⟨hx4,hx5⟩] at hbb;subst hbb;refine Bm Z<|Bx Z Z Z Z<|Ab Z<|Ao Z<|Ap<|Ac Z<|Bu Z<|Ac Z<|Aa Z<|Ab Z<|Aa Z<|A5 Z Z<|Aa Z<|Ac Z<|Aw Z<|Aq Z Z<|Aa Z<|Af Z Z<|Af Z Z<|Bh Z<|Ap<|Ab Z<|As Z Z<|Ac Z<|Aw Z<|Aa Z<|Ab Z<|Aa Z<|A5 Z Z<|Af Z Z<|AJ Z<|Ap<|Ak Z<|AX Z<|As Z Z<|Ac Z<|Aw Z<|Aa Z<|Ak Z<|Aa Z<|AU 4 Z Z Z hx4<|Aa Z<|AB Z Z<|Af Z Z<|Ac Z<|Aw Z<|Aa Z<|Ak Z<|Aa Z<|AU 5 Z Z Z hx5<|Aa Z<|AB Z Z<|Af Z Z<|AJ Z<|Aj<|Ak Z<|B6 (n:=6) Z Z Z (by omega)<|AG Z p2 ?_;by_cases c8:b<0
    ·rw[if_pos c8,decide_eq_false (by omega:¬0≤b)];refine Bm Z<|Bx Z Z Z Z<|Ab Z<|Ao Z<|Ap<|Ac Z<|Bu Z<|Ac Z<|Aq Z Z<|Ah Z Z<|Ac Z<|Aq Z Z<|Ah Z Z<|BK Z<|AD Z<|Ab Z<|Bk Z<|bad _ Z Z Z (by rw[hU,if_pos (.inl (by omega))])
    rw[if_neg c8,decide_eq_true (by omega:0≤b)];by_cases c9:b<56320
    ·refine Bm Z<|Bx Z Z Z Z<|Ab Z<|Ao Z<|Ap<|Ac Z<|Bu Z<|Ac Z<|Aa Z<|Ab Z<|Aa Z<|As Z Z<|Af Z Z<|Ac Z<|AA Z<|Aq Z Z<|Ah Z Z<|BK Z<|AD Z<|Ab Z<|Bk Z<|bad _ Z Z Z (by rw[hU,if_pos (.inl c9)])
    by_cases c10:57343<b
    ·refine Bm Z<|Bx Z Z Z Z<|Ab Z<|Ao Z<|Ap<|Ac Z<|Bu Z<|Ac Z<|Aa Z<|Ab Z<|Aa Z<|As Z Z<|Af Z Z<|Ac Z<|Aw Z<|Aa Z<|Ab Z<|Aa Z<|A5 Z Z<|Af Z Z<|AE Z<|AD Z<|Ab Z<|Bk Z<|bad _ Z Z Z (by rw[hU,if_pos (.inr c10)])
    rw[if_neg (by omega)] at hU;refine Bm Z<|Bx Z Z Z Z<|Ab Z<|Ao Z<|Ap<|Ac Z<|Bu Z<|Ac Z<|Aa Z<|Ab Z<|Aa Z<|As Z Z<|Af Z Z<|Ac Z<|Aw Z<|Aa Z<|Ab Z<|Aa Z<|A5 Z Z<|Af Z Z<|AJ Z<|AD Z<|Vr Z Z (by omega) (by omega)<|Ox 10 Z Z (by decide) (by omega) (by omega)<|Vq Z Z (by omega) (by omega) ?_;(apply Ab;rfl);refine Vq Z Z (by omega) (by omega)<|Vr Z Z (by omega) (by omega)<|Ab Z<|Ab Z<|Bk Z<|good _ 10 _ Z Z Z (by decide) (by rw[hU];exact Prod.ext (by simp only;omega) Z)
   ·rw[if_neg (fun q=>by rw[hx5] at q;exact c7 (Option.some.inj q.2))] at hbb;have n7:x5.toNat≠117:=fun q=>c7 (UInt8.toNat_inj.1 q);refine Bm Z<|Bx Z Z Z Z<|Ab Z<|Ao Z<|Ap<|Ac Z<|Bu Z<|Ac Z<|Aa Z<|Ab Z<|Aa Z<|A5 Z Z<|Aa Z<|Ac Z<|Aw Z<|Aq Z Z<|Aa Z<|Af Z Z<|Af Z Z<|Bh Z<|Ap<|Ab Z<|As Z Z<|Ac Z<|Aw Z<|Aa Z<|Ab Z<|Aa Z<|A5 Z Z<|Af Z Z<|AJ Z<|Ap<|Ak Z<|AX Z<|As Z Z<|Ac Z<|Aw Z<|Aa Z<|Ak Z<|Aa Z<|AU 4 Z Z Z hx4<|Aa Z<|AB Z Z<|Af Z Z<|Ac Z<|Aw Z<|Aa Z<|Ak Z<|Aa Z<|AU 5 Z Z Z hx5<|Aa Z<|AB Z Z<|Af Z Z<|AE Z<|AD Z<|Ab Z<|Bk Z<|bad _ Z Z Z (by rw[hU,if_pos (.inl (by omega))])
  ·rw[if_neg (fun q=>by rw[hx4] at q;exact c6 (Option.some.inj q.1))] at hbb;have n6:x4.toNat≠92:=fun q=>c6 (UInt8.toNat_inj.1 q);refine Bm Z<|Bx Z Z Z Z<|Ab Z<|Ao Z<|Ap<|Ac Z<|Bu Z<|Ac Z<|Aa Z<|Ab Z<|Aa Z<|A5 Z Z<|Aa Z<|Ac Z<|Aw Z<|Aq Z Z<|Aa Z<|Af Z Z<|Af Z Z<|Bh Z<|Ap<|Ab Z<|As Z Z<|Ac Z<|Aw Z<|Aa Z<|Ab Z<|Aa Z<|A5 Z Z<|Af Z Z<|AJ Z<|Ap<|Ak Z<|AX Z<|As Z Z<|Ac Z<|Aw Z<|Aa Z<|Ak Z<|Aa Z<|AU 4 Z Z Z hx4<|Aa Z<|AB Z Z<|Af Z Z<|Ac Z<|AA Z<|Aq Z Z<|AF Z<|Ah Z Z<|BK Z<|AD Z<|Ab Z<|Bk Z<|bad _ Z Z Z (by rw[hU,if_pos (.inl (by omega))])
def Q1:List UInt8→Int×Nat
 |[]=>(0,0)
 |c::r=>match Eg c with
  |some x=>(x,1)
  |none=>if c=117 then((Dw r).1,(Dw r).2+1) else(0,0)
def Uo(P:Program)(f:FuncId):Prop:=∀{d s},s.length≤100000000→AO P f [Ag s] d (.tuple #[.int .i32 (Q1 s).1,vZ ((Q1 s).2:Nat),.bool (decide ((Dz s).2≠0))])
def OM(a0:Nat):Bo:=⟨45,[(.tmp 2),(.tmp 3),(.tmp 4)],(sR (o1 2 (.mv (.const (.int .i32 0)))<|o1 3 (.mv z0)<|o1 4 (.mv (.const (.bool false))) .done) (.seq (sR (om 9 0<|ob 10 .eql 9 (.const (Ag [])) .done) (.cond 10 (sR (o1 2 (.mv (.const (.int .i32 0)))<|o1 3 (.mv z0)<|o1 4 (.mv (.const (.bool false))) .done) .ret) .skip)) (.seq (sR (om 11 0<|o1 12 (.sidx 11 z0)<|om 5 12 .done) (sR (om 13 5 .done) (.block 0 (.seq (.block 9 (.seq (.block 8 (.seq (.block 7 (.seq (.block 6 (.seq (.block 5 (.seq (.block 4 (.seq (.block 3 (.block 2 (.block 1 (.seq (.seq (sR (ob 15 .eql 13 (.const (.int .u8 34))<|om 14 15 .done) (.cond 14 (.exit 1) .skip)) (.seq (sR (ob 17 .eql 13 (.const (.int .u8 92))<|om 16 17 .done) (.cond 16 (.exit 2) .skip)) (.seq (sR (ob 19 .eql 13 (.const (.int .u8 47))<|om 18 19 .done) (.cond 18 (.exit 3) .skip)) (.seq (sR (ob 21 .eql 13 (.const (.int .u8 98))<|om 20 21 .done) (.cond 20 (.exit 4) .skip)) (.seq (sR (ob 23 .eql 13 (.const (.int .u8 102))<|om 22 23 .done) (.cond 22 (.exit 5) .skip)) (.seq (sR (ob 25 .eql 13 (.const (.int .u8 110))<|om 24 25 .done) (.cond 24 (.exit 6) .skip)) (.seq (sR (ob 27 .eql 13 (.const (.int .u8 114))<|om 26 27 .done) (.cond 26 (.exit 7) .skip)) (.seq (sR (ob 29 .eql 13 (.const (.int .u8 116))<|om 28 29 .done) (.cond 28 (.exit 8) .skip)) (sR (ob 31 .eql 13 (.const (.int .u8 117))<|om 30 31 .done) (.cond 30 (.exit 9) .skip)))))))))) (.exit 0))))) (.seq (sR (om 32 5<|o1 33 (.cvi .i32 32)<|om 2 33<|o1 3 (.mv z1)<|o1 4 (.mv (.const (.bool true))) .done) .ret) (.exit 0)))) (.seq (sR (o1 2 (.mv (.const (.int .i32 8)))<|o1 3 (.mv z1)<|o1 4 (.mv (.const (.bool true))) .done) .ret) (.exit 0)))) (.seq (sR (o1 2 (.mv (.const (.int .i32 12)))<|o1 3 (.mv z1)<|o1 4 (.mv (.const (.bool true))) .done) .ret) (.exit 0)))) (.seq (sR (o1 2 (.mv (.const (.int .i32 10)))<|o1 3 (.mv z1)<|o1 4 (.mv (.const (.bool true))) .done) .ret) (.exit 0)))) (.seq (sR (o1 2 (.mv (.const (.int .i32 13)))<|o1 3 (.mv z1)<|o1 4 (.mv (.const (.bool true))) .done) .ret) (.exit 0)))) (.seq (sR (o1 2 (.mv (.const (.int .i32 9)))<|o1 3 (.mv z1)<|o1 4 (.mv (.const (.bool true))) .done) .ret) (.exit 0)))) (.seq (sR (om 35 0<|o1 36 (.sls 35 (some z1) none)<|oc 37 a0 [36]<|om 34 37<|oe 38 34 0<|oe 39 34 1<|oe 40 34 2<|om 6 38<|om 7 39<|om 8 40 .done) (sR (om 41 6<|om 42 7<|ob 43 .add 42 z1<|om 44 8<|om 2 41<|om 3 43<|om 4 44 .done) .ret)) (.exit 0)))))) (sR (o1 2 (.mv (.const (.int .i32 0)))<|o1 3 (.mv z0)<|o1 4 (.mv (.const (.bool false))) .done) .ret))))⟩
set_option maxHeartbeats 1000000 in
def Aag{P f f1}(hd:dec P f=some (OM f1))(h1:UR P f1):Uo P f:=by
 intro d s hl;refine AO.of' hd (Aca Z) ?_;show gwp P _ _ _ _ _;by_cases hs:s=[]
 ·(refine AD Z<|Ab Z<|Ao Z<|Ap<|Ak Z<|CS Z Z<|AE Z<|AD Z<|Ab Z<|Bk Z ?_);subst hs;exact Ba [.int .i32 0,vZ 0,.bool false] ⟨Z,Z,Z,trivial⟩ (Acb _) ⟨Z,Z⟩
 ·obtain⟨c,r,hcr⟩:∃c r,s=c::r:=by cases s with|nil=>exact absurd Z hs|cons c r=>exact⟨c,r,Z⟩
  have h0:s[0]?=some c:=by rw[hcr];rfl
  have h1':s.drop 1=r:=by rw[hcr];rfl
  have hpos:0<s.length:=Adk.2 hs;have p1:=h1 (d:=d) (s:=r) (by rw[←h1',Acl];omega);have eV:Q1 s=(match Eg c with|some x=>(x,1)|none=>if c=117 then((Dw r).1,(Dw r).2+1) else(0,0)):=by rw[hcr];rfl
  have eF:Dz s=(match Eg c with|some x=>(x,1)|none=>if c=117 then(if (Dw r).2=0 then(0,0) else((Dw r).1,(Dw r).2+1)) else(0,0)):=by rw[hcr];rfl
  have ul:=RE r;have rl:r.length<s.length:=by rw[hcr];simp
  have hcb:=UInt8.toNat_lt c;rw[eV,eF];refine AD Z<|Ab Z<|Ao Z<|Ap<|Ak Z<|CS Z Z<|AJ Z<|Ap<|Ak Z<|AU 0 Z Z Z h0 ?_;by_cases c34:c=34
  ·have q:c.toNat=34:=by rw[c34];rfl
   refine Bt Z<|AL Z<|Am<|Ax<|Am<|Ax<|Am<|Ax<|Am<|Ax<|Am<|Ax<|Am<|Ax<|Am<|Ax<|Am<|Am<|Am<|Ax<|Ap<|Ai Z Z<|Ao Z<|Bn Z<|A6<|Ap<|Ab Z<|JU Z (by omega) (by omega)<|Ab Z<|Ab Z<|Bk Z ?_;subst c34;exact Ba [.int .i32 34,vZ 1,.bool true] ⟨Z,Z,Z,trivial⟩ (Acb _) ⟨Z,Z⟩
  have n34:c.toNat≠34:=fun q=>c34 (UInt8.toNat_inj.1 q);by_cases c92:c=92
  ·have q:c.toNat=92:=by rw[c92];rfl
   refine Bt Z<|AL Z<|Am<|Ax<|Am<|Ax<|Am<|Ax<|Am<|Ax<|Am<|Ax<|Am<|Ax<|Am<|Ax<|Am<|Am<|Am<|Ax<|Ap<|Ai Z Z<|Ao Z<|AH Z<|Ay<|Ap<|Ai Z Z<|Ao Z<|Bn Z<|A6<|Ap<|Ab Z<|JU Z (by omega) (by omega)<|Ab Z<|Ab Z<|Bk Z ?_;subst c92;exact Ba [.int .i32 92,vZ 1,.bool true] ⟨Z,Z,Z,trivial⟩ (Acb _) ⟨Z,Z⟩
  have n92:c.toNat≠92:=fun q=>c92 (UInt8.toNat_inj.1 q);by_cases c47:c=47
  ·have q:c.toNat=47:=by rw[c47];rfl
   refine Bt Z<|AL Z<|Am<|Ax<|Am<|Ax<|Am<|Ax<|Am<|Ax<|Am<|Ax<|Am<|Ax<|Am<|Ax<|Am<|Am<|Am<|Ax<|Ap<|Ai Z Z<|Ao Z<|AH Z<|Ay<|Ap<|Ai Z Z<|Ao Z<|AH Z<|Ay<|Ap<|Ai Z Z<|Ao Z<|Bn Z<|A6<|Ap<|Ab Z<|JU Z (by omega) (by omega)<|Ab Z<|Ab Z<|Bk Z ?_;subst c47;exact Ba [.int .i32 47,vZ 1,.bool true] ⟨Z,Z,Z,trivial⟩ (Acb _) ⟨Z,Z⟩
  have n47:c.toNat≠47:=fun q=>c47 (UInt8.toNat_inj.1 q);by_cases c98:c=98
  ·have q:c.toNat=98:=by rw[c98];rfl
   (refine Bt Z<|AL Z<|Am<|Ax<|Am<|Ax<|Am<|Ax<|Am<|Ax<|Am<|Ax<|Am<|Ax<|Am<|Ax<|Am<|Am<|Am<|Ax<|Ap<|Ai Z Z<|Ao Z<|AH Z<|Ay<|Ap<|Ai Z Z<|Ao Z<|AH Z<|Ay<|Ap<|Ai Z Z<|Ao Z<|AH Z<|Ay<|Ap<|Ai Z Z<|Ao Z<|Bn Z<|A6<|Ap<|Ab Z<|Ab Z<|Bk Z ?_);subst c98;exact Ba [.int .i32 8,vZ 1,.bool true] ⟨Z,Z,Z,trivial⟩ (Acb _) ⟨Z,Z⟩
  have n98:c.toNat≠98:=fun q=>c98 (UInt8.toNat_inj.1 q);by_cases c102:c=102
  ·have q:c.toNat=102:=by rw[c102];rfl
   (refine Bt Z<|AL Z<|Am<|Ax<|Am<|Ax<|Am<|Ax<|Am<|Ax<|Am<|Ax<|Am<|Ax<|Am<|Ax<|Am<|Am<|Am<|Ax<|Ap<|Ai Z Z<|Ao Z<|AH Z<|Ay<|Ap<|Ai Z Z<|Ao Z<|AH Z<|Ay<|Ap<|Ai Z Z<|Ao Z<|AH Z<|Ay<|Ap<|Ai Z Z<|Ao Z<|AH Z<|Ay<|Ap<|Ai Z Z<|Ao Z<|Bn Z<|A6<|Ap<|Ab Z<|Ab Z<|Bk Z ?_);subst c102;exact Ba [.int .i32 12,vZ 1,.bool true] ⟨Z,Z,Z,trivial⟩ (Acb _) ⟨Z,Z⟩
  have n102:c.toNat≠102:=fun q=>c102 (UInt8.toNat_inj.1 q);by_cases c110:c=110
  ·have q:c.toNat=110:=by rw[c110];rfl
   (refine Bt Z<|AL Z<|Am<|Ax<|Am<|Ax<|Am<|Ax<|Am<|Ax<|Am<|Ax<|Am<|Ax<|Am<|Ax<|Am<|Am<|Am<|Ax<|Ap<|Ai Z Z<|Ao Z<|AH Z<|Ay<|Ap<|Ai Z Z<|Ao Z<|AH Z<|Ay<|Ap<|Ai Z Z<|Ao Z<|AH Z<|Ay<|Ap<|Ai Z Z<|Ao Z<|AH Z<|Ay<|Ap<|Ai Z Z<|Ao Z<|AH Z<|Ay<|Ap<|Ai Z Z<|Ao Z<|Bn Z<|A6<|Ap<|Ab Z<|Ab Z<|Bk Z ?_);subst c110;exact Ba [.int .i32 10,vZ 1,.bool true] ⟨Z,Z,Z,trivial⟩ (Acb _) ⟨Z,Z⟩
  have n110:c.toNat≠110:=fun q=>c110 (UInt8.toNat_inj.1 q);by_cases c114:c=114
  ·have q:c.toNat=114:=by rw[c114];rfl
   (refine Bt Z<|AL Z<|Am<|Ax<|Am<|Ax<|Am<|Ax<|Am<|Ax<|Am<|Ax<|Am<|Ax<|Am<|Ax<|Am<|Am<|Am<|Ax<|Ap<|Ai Z Z<|Ao Z<|AH Z<|Ay<|Ap<|Ai Z Z<|Ao Z<|AH Z<|Ay<|Ap<|Ai Z Z<|Ao Z<|AH Z<|Ay<|Ap<|Ai Z Z<|Ao Z<|AH Z<|Ay<|Ap<|Ai Z Z<|Ao Z<|AH Z<|Ay<|Ap<|Ai Z Z<|Ao Z<|AH Z<|Ay<|Ap<|Ai Z Z<|Ao Z<|Bn Z<|A6<|Ap<|Ab Z<|Ab Z<|Bk Z ?_);subst c114;exact Ba [.int .i32 13,vZ 1,.bool true] ⟨Z,Z,Z,trivial⟩ (Acb _) ⟨Z,Z⟩
  have n114:c.toNat≠114:=fun q=>c114 (UInt8.toNat_inj.1 q);by_cases c116:c=116
  ·have q:c.toNat=116:=by rw[c116];rfl
   (refine Bt Z<|AL Z<|Am<|Ax<|Am<|Ax<|Am<|Ax<|Am<|Ax<|Am<|Ax<|Am<|Ax<|Am<|Ax<|Am<|Am<|Am<|Ax<|Ap<|Ai Z Z<|Ao Z<|AH Z<|Ay<|Ap<|Ai Z Z<|Ao Z<|AH Z<|Ay<|Ap<|Ai Z Z<|Ao Z<|AH Z<|Ay<|Ap<|Ai Z Z<|Ao Z<|AH Z<|Ay<|Ap<|Ai Z Z<|Ao Z<|AH Z<|Ay<|Ap<|Ai Z Z<|Ao Z<|AH Z<|Ay<|Ap<|Ai Z Z<|Ao Z<|AH Z<|Ay<|Ap<|Ai Z Z<|Ao Z<|Bn Z<|A6<|Ap<|Ab Z<|Ab Z<|Bk Z ?_);subst c116;exact Ba [.int .i32 9,vZ 1,.bool true] ⟨Z,Z,Z,trivial⟩ (Acb _) ⟨Z,Z⟩
  have n116:c.toNat≠116:=fun q=>c116 (UInt8.toNat_inj.1 q);have hE:Eg c=none:=by unfold Eg;rw[if_neg c34,if_neg c92,if_neg c47,if_neg c98,if_neg c102,if_neg c110,if_neg c114,if_neg c116]
  rw[hE];by_cases c117:c=117
  ·have q:c.toNat=117:=by rw[c117];rfl
   (refine Bt Z<|AL Z<|Am<|Ax<|Am<|Ax<|Am<|Ax<|Am<|Ax<|Am<|Ax<|Am<|Ax<|Am<|Ax<|Am<|Am<|Am<|Ax<|Ap<|Ai Z Z<|Ao Z<|AH Z<|Ay<|Ap<|Ai Z Z<|Ao Z<|AH Z<|Ay<|Ap<|Ai Z Z<|Ao Z<|AH Z<|Ay<|Ap<|Ai Z Z<|Ao Z<|AH Z<|Ay<|Ap<|Ai Z Z<|Ao Z<|AH Z<|Ay<|Ap<|Ai Z Z<|Ao Z<|AH Z<|Ay<|Ap<|Ai Z Z<|Ao Z<|AH Z<|Ay<|Ap<|Ai Z Z<|Ao Z<|AH Z<|Ay<|Aj<|Ai Z Z<|Ao Z<|Bn Z<|A6<|Ap<|Ak Z ?_);refine B6 (n:=1) Z Z Z (by omega) ?_;rw[h1'];refine AG Z p1 ?_;(refine Bm Z<|Bx Z Z Z Z<|CH Z Z<|Ab Z<|Ab Z<|Ao Z<|AD Z<|Ab Z<|AY Z Z<|Ac Z<|Ab Z<|Ab Z<|Bk Z ?_);exact Ba [.int .i32 (Dw r).1,vZ (((Dw r).2:Nat)+1),.bool (decide ((Dw r).2≠0))] ⟨Z,Z,Z,trivial⟩ (Acb _) ⟨by
    simp only[if_pos c117];by_cases hz:(Dw r).2=0
    ·rw[if_pos hz,hz];rfl
    ·rw[if_neg hz,decide_eq_true hz,decide_eq_true (by simp only;omega)];rfl,Z⟩
  ·have n117:c.toNat≠117:=fun q=>c117 (UInt8.toNat_inj.1 q);refine Bt Z<|AL Z<|Am<|Ax<|Am<|Ax<|Am<|Ax<|Am<|Ax<|Am<|Ax<|Am<|Ax<|Am<|Ax<|Am<|Am<|Am<|Ax<|Ap<|Ai Z Z<|Ao Z<|AH Z<|Ay<|Ap<|Ai Z Z<|Ao Z<|AH Z<|Ay<|Ap<|Ai Z Z<|Ao Z<|AH Z<|Ay<|Ap<|Ai Z Z<|Ao Z<|AH Z<|Ay<|Ap<|Ai Z Z<|Ao Z<|AH Z<|Ay<|Ap<|Ai Z Z<|Ao Z<|AH Z<|Ay<|Ap<|Ai Z Z<|Ao Z<|AH Z<|Ay<|Ap<|Ai Z Z<|Ao Z<|AH Z<|Ay<|Aj<|Ai Z Z<|Ao Z<|AH Z<|Ay<|A6<|AD Z<|Ab Z<|Bk Z<|Ba [.int .i32 0,vZ 0,.bool false] ⟨Z,Z,Z,trivial⟩ (Acb _) ⟨by simp only[if_neg c117];rfl,Z⟩
def ZO{s}(h:(Dz s).2≠0):Q1 s=Dz s:=by
 cases s with
 |nil=>rfl
 |cons c r=>
  rw[Dz] at h
  rw[Dz,Q1]
  cases hs:Eg c with
  |some x=>rfl
  |none=>
   rw[hs] at h
   simp only at h⊢
   by_cases q:c=117
   ·rw[if_pos q] at h⊢
    by_cases q2:(Dw r).2=0
    ·rw[if_pos q2] at h;exact absurd Z h
    ·rw[if_pos q,if_neg q2]
   ·rw[if_neg q,if_neg q]
def PG(T:Ad→Prop)(P:Program)(f:FuncId):Prop:=∀{d s},T d→s.length≤1000000→AO P f [Ag s] d (.tuple #[Ag (Ck s).1,vZ (Ck s).2.1,vZ (Ck s).2.2])
def RZ(a0 a1 a2:Nat):Bo:=⟨82,[(.tmp 2),(.tmp 3),(.tmp 4)],(sR (o1 2 (.mv (.const (Ag [])))<|o1 3 (.mv z0)<|o1 4 (.mv z0) .done) (.seq (sR (om 13 0<|ob 14 .eql 13 (.const (Ag []))<|om 15 14<|gF 16 15 0<|oF 17 15 (.sidx 16 z0)<|oF 18 15 (.bin .neq 17 (.const (.int .u8 34)))<|o1 19 (.pick 15 (.const (.bool true)) 18) .done) (.cond 19 (sR (o1 2 (.mv (.const (Ag [])))<|o1 3 (.mv z0)<|o1 4 (.mv (kZ 20)) .done) .ret) .skip)) (sR (o1 5 (.mv nS) .done) (.seq (sR (o1 6 (.mv z1) .done) (.block 0 (.loop (.seq (sR (om 20 6<|om 21 0<|o1 22 (.lens 21)<|ob 23 .lss 20 22 .done) (.cond 23 .skip (.exit 0))) (.block 1 (sR (om 24 0<|om 25 6<|o1 26 (.sidx 24 25)<|om 7 26 .done) (.block 2 (sR (om 52 7<|ob 53 .eql 52 (.const (.int .u8 34))<|om 51 53 .done) (.cond 51 (sR (om 54 5<|o1 55 (.b2s 54)<|om 56 6<|ob 57 .add 56 z1<|om 2 55<|om 3 57<|o1 4 (.mv z0) .done) .ret) (sR (om 59 7<|ob 60 .lss 59 (.const (.int .u8 32))<|om 58 60 .done) (.cond 58 (sR (o1 2 (.mv (.const (Ag [])))<|o1 3 (.mv z0)<|o1 4 (.mv (kZ 20)) .done) .ret) (sR (om 62 7<|ob 63 .eql 62 (.const (.int .u8 92))<|om 61 63 .done) (.cond 61 (sR (om 65 0<|om 66 6<|ob 67 .add 66 z1<|o1 68 (.sls 65 (some 67) none)<|oc 69 a0 [68]<|om 64 69<|oe 70 64 0<|oe 71 64 1<|oe 72 64 2<|om 8 70<|om 9 71<|om 10 72 .done) (.seq (sR (om 73 10<|o1 74 (.un .not 73) .done) (.cond 74 (sR (o1 2 (.mv (.const (Ag [])))<|o1 3 (.mv z0)<|o1 4 (.mv (kZ 20)) .done) .ret) .skip)) (sR (om 75 5<|om 76 8<|oc 77 a1 [75,76]<|om 5 77 .done) (rG (om 78 6<|om 79 9<|ob 80 .add 79 z1<|ob 81 .add 78 80<|om 6 81 .done))))) (sR (om 28 0<|om 29 6<|o1 30 (.sls 28 (some 29) none)<|oc 31 a2 [30]<|om 27 31<|oe 32 27 0<|oe 33 27 1<|om 11 32<|om 12 33 .done) (.seq (sR (om 34 11<|ob 35 .eql 34 (.const (.int .i32 65533))<|om 36 35<|gT 37 36 12<|oT 38 36 (.bin .lss 37 z2)<|gP 39 36 38 .done) (.cond 39 (sR (o1 2 (.mv (.const (Ag [])))<|o1 3 (.mv z0)<|o1 4 (.mv (kZ 20)) .done) .ret) .skip)) (sR (om 40 5<|om 41 0<|om 42 6<|om 43 6<|om 44 12<|ob 45 .add 43 44<|o1 46 (.sls 41 (some 42) (some 45))<|o1 47 (.mop (.aps 1 [(.int .u8 0)] 40 46))<|om 5 47 .done) (rG (om 48 6<|om 49 12<|ob 50 .add 48 49<|om 6 50 .done)))))))))))))))))) (sR (o1 2 (.mv (.const (Ag [])))<|o1 3 (.mv z0)<|o1 4 (.mv (kZ 20)) .done) .ret)))))⟩
set_option maxHeartbeats 2000000 in
def WX{T:Ad→Prop}{P f f1 f2 f3}(hd:dec P f=some (RZ f1 f2 f3))(h1:Uo P f1)(h2:IJ 0 P f2)(h3:UO T P f3):PG T P f:=by
 intro d s ht hl;have e34:(34:UInt8).toNat=34:=Z;have bad:∀(ρ:Env) (L:List Ad),ρ 2=Ag []→ρ 3=vZ 0→ρ 4=vZ 20→Ck s=([],0,20)→Cb [.tmp 2,.tmp 3,.tmp 4] (Ret fun r _ L'=>r=.tuple #[Ag (Ck s).1,vZ (Ck s).2.1,vZ (Ck s).2.2]∧L'=[]) ρ d L:=fun ρ L e2 e3 e4 e=>by
  rw[e];exact Ba [Ag [],vZ 0,vZ 20] ⟨e2.symm,e3.symm,e4.symm,trivial⟩ (Acb _) ⟨Z,Z⟩
 refine AO.of' hd (Aca Z) ?_;show gwp P _ _ _ _ _;by_cases hs:s=[]
 ·refine Aj<|Ak Z<|Ab Z<|A1 Z<|Ak Z<|CS Z Z<|Ac Z<|AA Z<|Aq Z Z<|AF Z<|Ah Z Z<|BK Z<|Aj<|Ak Z<|Ab Z<|AM Z<|bad _ _ Z Z Z (by rw[hs];rfl)
 obtain⟨c,r,hcr⟩:∃c r,s=c::r:=by cases s with|nil=>exact absurd Z hs|cons c r=>exact⟨c,r,Z⟩
 have h0:s[0]?=some c:=by rw[hcr];rfl
 have hpos:0<s.length:=Adk.2 hs;by_cases hc:c=34
 ·have hcn:c.toNat=34:=by rw[hc];rfl
  have hQ:Ck s=FZ (s.drop 1) [] 1:=by rw[hcr,hc];rfl
  rw[hQ] at bad⊢;refine Aj<|Ak Z<|Ab Z<|A1 Z<|Ak Z<|CS Z Z<|Ac Z<|Aw Z<|Aa Z<|Ak Z<|Aa Z<|AU 0 Z Z Z h0<|Aa Z<|AB Z Z<|Af Z Z<|BM Z ?_;apply Ay;apply Ax;apply Ar;apply B3;refine JI ⟨d,[emp],Vs.emp,?_⟩;refine Ap<|AL Z<|Am<|Pn (α:=Nat×List UInt8) (fun x v=>[(0,Ag s),(5,v),(6,vZ (x.1:Int))])
   (fun x v h d' L'=>d'=d∧1≤x.1∧x.1≤s.length∧AQ 1 Cd d v x.2 h∧x.2.length≤4*x.1∧FZ (s.drop x.1) x.2 x.1=FZ (s.drop 1) [] 1∧L'=[h])
   (fun x=>s.length - x.1) (1,[]) nV emp ⟨Z,Z,Z,trivial⟩ ⟨Z,Ack _,hpos,AQ.nil,Acu _,Z,Z⟩ ?_
  rintro x v h ρ d' L' ⟨hdd,hx1,hx2,ho,hlen,heq,hL⟩;subst hdd;subst hL;by_cases hend:x.1=s.length
  ·refine Ap<|Ab Z<|Ak Z<|AX Z<|As Z Z<|BM Z<|A6<|Aj<|Ak Z<|Ab Z<|AM Z<|bad _ _ Z Z Z (by rw[←heq,Adb (by omega)];rfl)
  obtain⟨b,hb⟩:∃b,s[x.1]?=some b:=⟨_,Acf (by omega)⟩
  have hdr:s.drop x.1=b::s.drop (x.1+1):=by
   obtain⟨hlt,he⟩:=Acj.1 hb;rw[Acv hlt,he]
  have htl:(s.drop (x.1+1)).length=s.length - (x.1+1):=Acl;have hbt:=UInt8.toNat_lt b;rw[hdr] at heq;by_cases c34:b=34
  ·have q:b.toNat=34:=by rw[c34];rfl
   rw[c34,PQ] at heq;rw[←heq];refine Ap<|Ab Z<|Ak Z<|AX Z<|As Z Z<|AE Z<|Ay<|Am<|Aj<|Ak Z<|Ab Z<|AU x.1 Z Z Z hb<|AL Z<|Am<|AD Z<|Ai Z Z<|Ao Z<|Bn Z<|Aj<|B3<|HW (by rfl) (by assumption) (by simp[lk])<|Ab Z<|AY Z Z<|Ak Z<|Ab Z<|AM Z<|Ba [Ag x.2,vZ ((x.1+1:Nat):Int),vZ 0] ⟨Z,Z,Z,trivial⟩ (Acb _) ⟨Z,Z⟩
  have n34:b.toNat≠34:=fun q=>c34 (UInt8.toNat_inj.1 q);by_cases c32:b.toNat<32
  ·rw[Jq c34 (by rw[pcP,if_pos c32])] at heq;refine Ap<|Ab Z<|Ak Z<|AX Z<|As Z Z<|AE Z<|Ay<|Am<|Aj<|Ak Z<|Ab Z<|AU x.1 Z Z Z hb<|AL Z<|Am<|AD Z<|Ai Z Z<|Ao Z<|AH Z<|AD Z<|As Z Z<|Ao Z<|Bn Z<|Aj<|Ak Z<|Ab Z<|AM Z<|bad _ _ Z Z Z heq.symm
  by_cases c92:b=92
  ·have q:b.toNat=92:=by rw[c92];rfl
   subst c92;have p1:=h1 (d:=d') (s:=s.drop (x.1+1)) (by omega);have el:=R9 (s.drop (x.1+1));by_cases hz:(Dz (s.drop (x.1+1))).2=0
   ·rw[Jq c34 (by rw[GZ,if_pos hz])] at heq;rw[decide_eq_false (fun h=>h hz)] at p1;refine Ap<|Ab Z<|Ak Z<|AX Z<|As Z Z<|AE Z<|Ay<|Am<|Aj<|Ak Z<|Ab Z<|AU x.1 Z Z Z hb<|AL Z<|Am<|AD Z<|Ai Z Z<|Ao Z<|AH Z<|AD Z<|As Z Z<|Ao Z<|AH Z<|AD Z<|Ai Z Z<|Ao Z<|Bn Z<|Aj<|Ak Z<|Ab Z<|AY Z Z<|B6 (n:=x.1+1) Z Z (by omega) (by omega)<|AG Z p1<|Bm Z<|Bx Z Z Z Z<|CH Z Z<|Ab Z<|Ab Z<|Ao Z<|Ap<|Ac Z<|Bu Z<|BK Z<|Aj<|Ak Z<|Ab Z<|AM Z<|bad _ _ Z Z Z heq.symm
   ·rw[Kt c34 (by rw[GZ,if_neg hz];simp only;omega),GZ,if_neg hz,←hdr,Aeb] at heq;have hsc:=Jl hz;rw[decide_eq_true hz,ZO hz] at p1;have hel:=Nt (Dz (s.drop (x.1+1))).1;generalize (Dz (s.drop (x.1+1))).1=er at*;generalize (Dz (s.drop (x.1+1))).2=en at*;refine Ap<|Ab Z<|Ak Z<|AX Z<|As Z Z<|AE Z<|Ay<|Am<|Aj<|Ak Z<|Ab Z<|AU x.1 Z Z Z hb<|AL Z<|Am<|AD Z<|Ai Z Z<|Ao Z<|AH Z<|AD Z<|As Z Z<|Ao Z<|AH Z<|AD Z<|Ai Z Z<|Ao Z<|Bn Z<|Aj<|Ak Z<|Ab Z<|AY Z Z<|B6 (n:=x.1+1) Z Z (by omega) (by omega)<|AG Z p1<|Bm Z<|Bx Z Z Z Z<|CH Z Z<|Ab Z<|Ab Z<|Ao Z<|Ap<|Ac Z<|Bu Z<|Bh Z<|Aj<|B3<|Ab Z<|JY 1 Z (h2 ho (by omega) hsc.1 hsc) (fun v2 d2 L2 hl2 hr2=>?_);obtain⟨rfl,h2',rfl,o2⟩:=hr2;(refine B3<|Av<|Ar<|Ab Z<|Ab Z<|AY Z Z<|AY Z Z<|AL Z ?_);exact⟨(x.1+(en+1),x.2++EV er),v2,h2',by simp only;omega,⟨Z,Z,congrArg (Value.int .i64) (by omega),trivial⟩,Z,by simp only;omega,by simp only;omega,o2,by rw[Acd];simp only;omega,heq,Z⟩
  ·have n92:b.toNat≠92:=fun q=>c92 (UInt8.toNat_inj.1 q);have hne:s.drop x.1≠[]:=by rw[hdr];simp
   have p3:=h3 (d:=d') ht hne;have hw:=decodeL_width (s.drop x.1);have hwl:=decodeL_le (s.drop x.1) hne;rw[Acl] at hwl;by_cases hz:(decodeL (s.drop x.1)).1=65533∧(decodeL (s.drop x.1)).2<2
   ·rw[Jq c34 (by rw[HG c92 c32,←hdr,if_pos hz])] at heq;obtain⟨hz1,hz2⟩:=hz;generalize (decodeL (s.drop x.1)).1=er at*;generalize (decodeL (s.drop x.1)).2=en at*;refine Ap<|Ab Z<|Ak Z<|AX Z<|As Z Z<|AE Z<|Ay<|Am<|Aj<|Ak Z<|Ab Z<|AU x.1 Z Z Z hb<|AL Z<|Am<|AD Z<|Ai Z Z<|Ao Z<|AH Z<|AD Z<|As Z Z<|Ao Z<|AH Z<|AD Z<|Ai Z Z<|Ao Z<|AH Z<|Aj<|Ak Z<|Ab Z<|B6 (n:=x.1) Z Z Z (by omega)<|AG Z p3<|Bm Z<|Bx Z Z Z Z<|Ab Z<|A1 Z<|Ab Z<|Ai Z Z<|Ac Z<|AA Z<|Aa Z<|Ab Z<|Aa Z<|As Z Z<|Ah Z Z<|AE Z<|Aj<|Ak Z<|Ab Z<|AM Z<|bad _ _ Z Z Z heq.symm
   ·rw[Kt c34 (by rw[HG c92 c32,←hdr,if_neg hz];simp only;omega),HG c92 c32,←hdr,if_neg hz,Aeb] at heq;have h6:=Ack 0;generalize (decodeL (s.drop x.1)).1=er at*;generalize (decodeL (s.drop x.1)).2=en at*;refine Ap<|Ab Z<|Ak Z<|AX Z<|As Z Z<|AE Z<|Ay<|Am<|Aj<|Ak Z<|Ab Z<|AU x.1 Z Z Z hb<|AL Z<|Am<|AD Z<|Ai Z Z<|Ao Z<|AH Z<|AD Z<|As Z Z<|Ao Z<|AH Z<|AD Z<|Ai Z Z<|Ao Z<|AH Z<|Aj<|Ak Z<|Ab Z<|B6 (n:=x.1) Z Z Z (by omega)<|AG Z p3 ?_;by_cases e6:er=65533
    ·refine Bm Z<|Bx Z Z Z Z<|Ab Z<|A1 Z<|Ab Z<|Ai Z Z<|Ac Z<|AA Z<|Aa Z<|Ab Z<|Aa Z<|As Z Z<|Ah Z Z<|AJ Z<|Aj<|B3<|Ak Z<|Ab Z<|Ab Z<|Ab Z<|AY Z Z<|DG (n:=x.1) (m:=x.1+en) Z Z Z Z (by omega) (by omega) (by omega) ?_;rw[Afd];refine UZ 0 Z Z ho Z (by rw[Aco];omega) (by rw[Aco];omega) (fun v2 h2' o2=>?_);(refine B3<|Av<|Ar<|Ab Z<|Ab Z<|AY Z Z<|AL Z ?_);exact⟨(x.1+en,x.2++(s.drop x.1).take en),v2,h2',by simp only;omega,⟨Z,Z,Z,trivial⟩,Z,by simp only;omega,by simp only;omega,o2,by rw[Acd,Aco];simp only;omega,heq,Z⟩
    ·refine Bm Z<|Bx Z Z Z Z<|Ab Z<|A1 Z<|Ab Z<|Ai Z Z<|Ac Z<|Aw Z<|Aq Z Z<|Af Z Z<|Bh Z<|Aj<|B3<|Ak Z<|Ab Z<|Ab Z<|Ab Z<|AY Z Z<|DG (n:=x.1) (m:=x.1+en) Z Z Z Z (by omega) (by omega) (by omega) ?_;rw[Afd];refine UZ 0 Z Z ho Z (by rw[Aco];omega) (by rw[Aco];omega) (fun v2 h2' o2=>?_);(refine B3<|Av<|Ar<|Ab Z<|Ab Z<|AY Z Z<|AL Z ?_);exact⟨(x.1+en,x.2++(s.drop x.1).take en),v2,h2',by simp only;omega,⟨Z,Z,Z,trivial⟩,Z,by simp only;omega,by simp only;omega,o2,by rw[Acd,Aco];simp only;omega,heq,Z⟩
 ·have hcn:c.toNat≠34:=fun q=>hc (UInt8.toNat_inj.1 q);refine Aj<|Ak Z<|Ab Z<|A1 Z<|Ak Z<|CS Z Z<|Ac Z<|Aw Z<|Aa Z<|Ak Z<|Aa Z<|AU 0 Z Z Z h0<|Aa Z<|AB Z Z<|Af Z Z<|AE Z<|Aj<|Ak Z<|Ab Z<|AM Z<|bad _ _ Z Z Z (by rw[Ck,if_neg];rw[hcr];exact fun q=>hc (Option.some.inj q))
end Go.Gk.Jsn
end
section
namespace Go.Gk.Jsn
open Go Go.Gk Go.Gk.Val
attribute [local irreducible] gwp gws
variable{c:UInt8}
def Cl(t:Tk):List Value:=[.int .u8 (t.sign:Nat),vZ t.v.kind,vZ t.v.m,vZ t.v.e,Ag t.v.text,nV,nV,vZ (t.at_:Nat),vZ (t.too:Nat),vZ t.e]
def IW(T:Ad→Prop)(P:Program)(f:FuncId):Prop:=∀{d s}{p:Nat},T d→s.length≤900000→p≤s.length→AO P f [Ag s,vZ (p:Int)] d (.agg (Cl (Ce s p)).toArray)
def EO(q:Nat)(t:Nat×V×Nat×Int):Tk:=⟨t.1,t.2.1,q,q+t.2.2.1,t.2.2.2⟩
def Pk(s:List UInt8)(p:Nat):Ce s p=EO (p+BD Cu (s.drop p)) (C2 (s.drop (p+BD Cu (s.drop p)))):=Z
def Ti:C2 []=(255,V.zero,0,0):=Z
def WT(h1:c.toNat≠32)(h2:c.toNat≠9)(h3:c.toNat≠10)(h4:c.toNat≠13):Cu c=false:=by
 simp only[Cu,decide_eq_false_iff_not,not_or];refine⟨?_,?_,?_,?_⟩<;>(rintro rfl;first|exact h1 Z|exact h2 Z|exact h3 Z|exact h4 Z)
def TD{s}(h:E9 c=true):C2 (c::s)=(c.toNat,V.zero,1,0):=by rw[C2,if_pos h]
def Tx{s}(h:¬E9 c=true)(h2:c=34):C2 (c::s)=(0,MF (Ck (c::s)).1,(Ck (c::s)).2.1.toNat,(Ck (c::s)).2.2):=by rw[C2,if_neg h,if_pos h2]
def Nd{s}(h:¬E9 c=true)(h2:¬c=34)(h3:Cc c=true):C2 (c::s)=(0,(E1 (c::s)).1,(E1 (c::s)).2.1,(E1 (c::s)).2.2):=by
 rw[C2,if_neg h,if_neg h2,if_pos h3];unfold E1;cases Hh ((c::s).take (BD Cc (c::s)))<;>rfl
def one_num{s}(h:¬E9 c=true)(h2:¬c=34)(h3:¬Cc c=true)(h4:c=45∨isD c=true):C2 (c::s)=(0,(FV (c::s)).1,(FV (c::s)).2.1,(FV (c::s)).2.2):=by
 rw[C2,if_neg h,if_neg h2,if_neg h3,if_pos h4];rfl
def Tf{s}(h:¬E9 c=true)(h2:¬c=34)(h3:¬Cc c=true)(h4:¬(c=45∨isD c=true)):C2 (c::s)=(0,V.zero,0,60):=by
 rw[C2,if_neg h,if_neg h2,if_neg h3,if_neg h4]
def SV(a0 a1 a2 a3:Nat):Bo:=⟨116,[(.cell 4 (some 10))],(sR (o1 4 (.alo (.agg #[(.int .u8 0),(vZ 0),(vZ 0),(vZ 0),(Ag []),nV,nV,(vZ 0),(vZ 0),(vZ 0)])) .done) (.seq (.block 0 (.loop (.seq (sR (om 8 1<|om 9 0<|o1 10 (.lens 9)<|ob 11 .lss 8 10<|om 12 11<|gT 13 12 0<|gT 14 12 1<|oT 15 12 (.sidx 13 14)<|oT 16 12 (.bin .eql 15 (.const (.int .u8 32)))<|gT 17 12 16<|gF 18 17 0<|gF 19 17 1<|oF 20 17 (.sidx 18 19)<|oF 21 17 (.bin .eql 20 (.const (.int .u8 9)))<|oT 22 12 (.pick 17 (.const (.bool true)) 21)<|gT 23 12 22<|gF 24 23 0<|gF 25 23 1<|oF 26 23 (.sidx 24 25)<|oF 27 23 (.bin .eql 26 (.const (.int .u8 10)))<|oT 28 12 (.pick 23 (.const (.bool true)) 27)<|gT 29 12 28<|gF 30 29 0<|gF 31 29 1<|oF 32 29 (.sidx 30 31)<|oF 33 29 (.bin .eql 32 (.const (.int .u8 13)))<|oT 34 12 (.pick 29 (.const (.bool true)) 33)<|gP 35 12 34 .done) (.cond 35 .skip (.exit 0))) (.block 1 (rG (om 36 1<|ob 37 .add 36 z1<|om 1 37 .done)))))) (.seq (sR (om 38 1<|om 39 0<|o1 40 (.lens 39)<|ob 41 .eql 38 40 .done) (.cond 41 (sR (om 42 1<|om 43 1<|o1 44 (.bld [(0,1),(1,6),(7,1),(8,1),(9,1)] [(.int .u8 0),(vZ 0),(vZ 0),(vZ 0),(Ag []),nV,nV,(vZ 0),(vZ 0),(vZ 0)] [(0,(.const (.int .u8 255))),(2,42),(3,43)])<|o0 (.st 10 4 44) .done) .ret) .skip)) (sR (om 45 1<|o1 46 (.bld [(0,1),(1,6),(7,1),(8,1),(9,1)] [(.int .u8 0),(vZ 0),(vZ 0),(vZ 0),(Ag []),nV,nV,(vZ 0),(vZ 0),(vZ 0)] [(2,45)])<|o1 5 (.alo (.agg #[(.int .u8 0),(vZ 0),(vZ 0),(vZ 0),(Ag []),nV,nV,(vZ 0),(vZ 0),(vZ 0)]))<|o0 (.st 10 5 46) .done) (sR (o1 6 (.mv z0) .done) (.seq (sR (om 47 0<|om 48 1<|o1 49 (.sidx 47 48)<|om 7 49 .done) (.block 2 (sR (om 52 7<|oc 53 a0 [(.const (Ag [123,125,91,93,58,44])),52]<|ob 54 .geq 53 z0<|om 51 54 .done) (.cond 51 (rG (om 55 7<|oj 56 0 5<|o0 (.st 1 56 55)<|o1 6 (.mv z1) .done)) (sR (om 58 7<|ob 59 .eql 58 (.const (.int .u8 34))<|om 57 59 .done) (.cond 57 (sR (oj 60 1 5<|oj 61 0 60<|o0 (.st 1 61 (kZ 4)) .done) (rG (om 63 0<|om 64 1<|o1 65 (.sls 63 (some 64) none)<|oc 66 a1 [65]<|om 62 66<|oe 67 62 0<|oe 68 62 1<|oe 69 62 2<|oj 70 1 5<|oj 71 3 70<|o0 (.st 1 71 67)<|om 6 68<|oj 72 9 5<|o0 (.st 1 72 69) .done))) (sR (om 74 7<|ob 75 .geq 74 (.const (.int .u8 97))<|om 76 75<|gT 77 76 7<|oT 78 76 (.bin .leq 77 (.const (.int .u8 122)))<|gP 79 76 78<|om 73 79 .done) (.cond 73 (rG (om 81 0<|om 82 1<|o1 83 (.sls 81 (some 82) none)<|oc 84 a2 [83]<|om 80 84<|oe 85 80 0<|oe 86 80 1<|oe 87 80 2<|oj 88 1 5<|o0 (.st 6 88 85)<|om 6 86<|oj 89 9 5<|o0 (.st 1 89 87) .done)) (sR (om 91 7<|ob 92 .eql 91 (.const (.int .u8 45))<|om 93 92<|gF 94 93 7<|oF 95 93 (.bin .geq 94 (.const (.int .u8 48)))<|gF 96 93 95<|gT 97 96 7<|oT 98 96 (.bin .leq 97 (.const (.int .u8 57)))<|oF 99 93 (.pick 96 98 (.const (.bool false)))<|o1 100 (.pick 93 (.const (.bool true)) 99)<|om 90 100 .done) (.cond 90 (rG (om 102 0<|om 103 1<|o1 104 (.sls 102 (some 103) none)<|oc 105 a3 [104]<|om 101 105<|oe 106 101 0<|oe 107 101 1<|oe 108 101 2<|oj 109 1 5<|o0 (.st 6 109 106)<|om 6 107<|oj 110 9 5<|o0 (.st 1 110 108) .done)) (rG (oj 50 9 5<|o0 (.st 1 50 (kZ 60)) .done)))))))))))) (sR (om 111 1<|om 112 6<|ob 113 .add 111 112<|oj 114 8 5<|o0 (.st 1 114 113) .done) (sR (o1 115 (.ld (some 10) 5)<|o0 (.st 10 4 115) .done) .ret))))))))⟩
set_option maxHeartbeats 1000000 in
def XV{T:Ad→Prop}{P f f1 f2 f3 f4}(hd:dec P f=some (SV f1 f2 f3 f4))(h1:Oc P f1)(h2:PG T P f2)(h3:QW P f3)(h4:Q4 T P f4):IW T P f:=by
 intro d s p ht hl hp;refine AO.of' hd (Aca Z) ?_;show gwp P _ _ _ _ _;(refine Aj<|BR (fun _ _=>Cr<|Am ?_));rename_i b4 T4;have hrl:=D5 Cu (s.drop p);rw[Acl] at hrl;refine FJ 0 (fun ρ d' L'=>AZ ρ [(0,Ag s),(1,vZ ((p+BD Cu (s.drop p):Nat):Int)),(4,pZ b4)]∧d'=d∧L'=[bx b4 T4 [.int .u8 0,vZ 0,vZ 0,vZ 0,Ag [],nV,nV,vZ 0,vZ 0,vZ 0]]) ?_ ?_
 ·refine BP (α:=Nat) (fun k=>[(0,Ag s),(1,vZ ((p+k:Nat):Int)),(4,pZ b4)]) (fun k d' L'=>d'=d∧p+k≤s.length∧k≤BD Cu (s.drop p)∧L'=[bx b4 T4 [.int .u8 0,vZ 0,vZ 0,vZ 0,Ag [],nV,nV,vZ 0,vZ 0,vZ 0]]) (fun k=>s.length - k) 0 ⟨Z,Z,Z,trivial⟩ ⟨Z,hp,Acu _,Z⟩ ?_;rintro k ρ d' L' ⟨hdd,hk,hr,hL⟩;subst hdd;subst hL;have hat:=Iy Cu (s.drop p) k hr;rw[Aeb] at hat;by_cases hk2:p+k<s.length
  ·obtain⟨c,hc⟩:∃c,s[p+k]?=some c:=⟨_,Acf hk2⟩
   have hdr:s.drop (p+k)=c::s.drop (p+k+1):=by
    obtain⟨hlt,he⟩:=Acj.1 hc;rw[Acv hlt,he]
   rw[hdr,BD] at hat;have hcb:=UInt8.toNat_lt c;by_cases g1:c.toNat=32
   ·rw[if_pos (by rw[show c=32 from UInt8.toNat_inj.1 g1];rfl)] at hat;refine Ap<|Ab Z<|Ak Z<|AX Z<|As Z Z<|Ac Z<|AA Z<|Aa Z<|Ak Z<|Aa Z<|Ab Z<|Aa Z<|AU (p+k) Z Z Z hc<|Aa Z<|Ai Z Z<|Aa Z<|Ac Z<|AA Z<|Aq Z Z<|Aq Z Z<|Aa Z<|Ah Z Z<|Aa Z<|Ac Z<|Aq Z Z<|Aq Z Z<|Aa Z<|Ah Z Z<|Aa Z<|Ac Z<|Aq Z Z<|Aq Z Z<|Aa Z<|Ah Z Z<|Ah Z Z<|BK Z<|Ay<|Am<|Ar<|Ab Z<|AY Z Z<|AL Z ?_;exact⟨k+1,by omega,⟨Z,congrArg (Value.int .i64) (by omega),Z,trivial⟩,Z,by omega,by omega,Z⟩
   by_cases g2:c.toNat=9
   ·rw[if_pos (by rw[show c=9 from UInt8.toNat_inj.1 g2];rfl)] at hat;refine Ap<|Ab Z<|Ak Z<|AX Z<|As Z Z<|Ac Z<|AA Z<|Aa Z<|Ak Z<|Aa Z<|Ab Z<|Aa Z<|AU (p+k) Z Z Z hc<|Aa Z<|Ai Z Z<|Aa Z<|Ac Z<|Aw Z<|Aa Z<|Ak Z<|Aa Z<|Ab Z<|Aa Z<|AU (p+k) Z Z Z hc<|Aa Z<|Ai Z Z<|Aa Z<|Af Z Z<|Aa Z<|Ac Z<|AA Z<|Aq Z Z<|Aq Z Z<|Aa Z<|Ah Z Z<|Aa Z<|Ac Z<|Aq Z Z<|Aq Z Z<|Aa Z<|Ah Z Z<|Ah Z Z<|BK Z<|Ay<|Am<|Ar<|Ab Z<|AY Z Z<|AL Z ?_;exact⟨k+1,by omega,⟨Z,congrArg (Value.int .i64) (by omega),Z,trivial⟩,Z,by omega,by omega,Z⟩
   by_cases g3:c.toNat=10
   ·rw[if_pos (by rw[show c=10 from UInt8.toNat_inj.1 g3];rfl)] at hat;refine Ap<|Ab Z<|Ak Z<|AX Z<|As Z Z<|Ac Z<|AA Z<|Aa Z<|Ak Z<|Aa Z<|Ab Z<|Aa Z<|AU (p+k) Z Z Z hc<|Aa Z<|Ai Z Z<|Aa Z<|Ac Z<|Aw Z<|Aa Z<|Ak Z<|Aa Z<|Ab Z<|Aa Z<|AU (p+k) Z Z Z hc<|Aa Z<|Ai Z Z<|Aa Z<|Af Z Z<|Aa Z<|Ac Z<|Aw Z<|Aa Z<|Ak Z<|Aa Z<|Ab Z<|Aa Z<|AU (p+k) Z Z Z hc<|Aa Z<|Ai Z Z<|Aa Z<|Af Z Z<|Aa Z<|Ac Z<|AA Z<|Aq Z Z<|Aq Z Z<|Aa Z<|Ah Z Z<|Ah Z Z<|BK Z<|Ay<|Am<|Ar<|Ab Z<|AY Z Z<|AL Z ?_;exact⟨k+1,by omega,⟨Z,congrArg (Value.int .i64) (by omega),Z,trivial⟩,Z,by omega,by omega,Z⟩
   by_cases g4:c.toNat=13
   ·rw[if_pos (by rw[show c=13 from UInt8.toNat_inj.1 g4];rfl)] at hat;refine Ap<|Ab Z<|Ak Z<|AX Z<|As Z Z<|Ac Z<|AA Z<|Aa Z<|Ak Z<|Aa Z<|Ab Z<|Aa Z<|AU (p+k) Z Z Z hc<|Aa Z<|Ai Z Z<|Aa Z<|Ac Z<|Aw Z<|Aa Z<|Ak Z<|Aa Z<|Ab Z<|Aa Z<|AU (p+k) Z Z Z hc<|Aa Z<|Ai Z Z<|Aa Z<|Af Z Z<|Aa Z<|Ac Z<|Aw Z<|Aa Z<|Ak Z<|Aa Z<|Ab Z<|Aa Z<|AU (p+k) Z Z Z hc<|Aa Z<|Ai Z Z<|Aa Z<|Af Z Z<|Aa Z<|Ac Z<|Aw Z<|Aa Z<|Ak Z<|Aa Z<|Ab Z<|Aa Z<|AU (p+k) Z Z Z hc<|Aa Z<|Ai Z Z<|Aa Z<|Af Z Z<|Ah Z Z<|AE Z<|Ay<|Am<|Ar<|Ab Z<|AY Z Z<|AL Z ?_;exact⟨k+1,by omega,⟨Z,congrArg (Value.int .i64) (by omega),Z,trivial⟩,Z,by omega,by omega,Z⟩
   ·rw[if_neg (by rw[WT g1 g2 g3 g4];decide)] at hat;refine Ap<|Ab Z<|Ak Z<|AX Z<|As Z Z<|Ac Z<|AA Z<|Aa Z<|Ak Z<|Aa Z<|Ab Z<|Aa Z<|AU (p+k) Z Z Z hc<|Aa Z<|Ai Z Z<|Aa Z<|Ac Z<|Aw Z<|Aa Z<|Ak Z<|Aa Z<|Ab Z<|Aa Z<|AU (p+k) Z Z Z hc<|Aa Z<|Ai Z Z<|Aa Z<|Af Z Z<|Aa Z<|Ac Z<|Aw Z<|Aa Z<|Ak Z<|Aa Z<|Ab Z<|Aa Z<|AU (p+k) Z Z Z hc<|Aa Z<|Ai Z Z<|Aa Z<|Af Z Z<|Aa Z<|Ac Z<|Aw Z<|Aa Z<|Ak Z<|Aa Z<|Ab Z<|Aa Z<|AU (p+k) Z Z Z hc<|Aa Z<|Ai Z Z<|Aa Z<|Af Z Z<|Ah Z Z<|BM Z<|A6<|Er 0 ⟨⟨Z,congrArg (Value.int .i64) (by omega),Z,trivial⟩,Z,Z⟩
  ·have:s.drop (p+k)=[]:=Adb (by omega);rw[this] at hat;have h0:BD Cu []=0:=Z;refine Ap<|Ab Z<|Ak Z<|AX Z<|As Z Z<|Ac Z<|Aw Z<|Aq Z Z<|Aq Z Z<|AF Z<|AN Z<|AN Z<|AN Z<|AN Z<|Aq Z Z<|AN Z<|AN Z<|AN Z<|AN Z<|Aq Z Z<|AN Z<|AN Z<|AN Z<|AN Z<|AF Z<|Af Z Z<|EX Z<|A6<|Er 0 ⟨⟨Z,congrArg (Value.int .i64) (by omega),Z,trivial⟩,Z,Z⟩
 ·rintro ρ d' L' ⟨hs,hdd,hL⟩;subst hdd;subst hL;show gwp P _ _ _ _ _;rw[Pk];have hq:p+BD Cu (s.drop p)≤s.length:=by omega
  generalize p+BD Cu (s.drop p)=q at*;refine A4 _ hs ?_;clear hs hrl;by_cases he:q=s.length
  ·refine Ap<|Ab Z<|Ak Z<|AX Z<|Ai Z Z<|AE Z<|AD Z<|Ab Z<|B2 Z<|Au 0 _ Z Z Z Z (Aca Z) Z Z<|Bz ?_;have e:s.drop q=[]:=Adb (by omega);rw[e,Ti];exact Ba [.agg (Cl ⟨255,V.zero,q,q,0⟩).toArray] ⟨Bc 0 Z Z Z,trivial⟩ (Acb _) ⟨Z,Z⟩
  obtain⟨c,hc⟩:∃c,s[q]?=some c:=⟨_,Acf (by omega)⟩
  have hdr:s.drop q=c::s.drop (q+1):=by
   obtain⟨hlt,hx⟩:=Acj.1 hc;rw[Acv hlt,hx]
  have hcb:=UInt8.toNat_lt c;have hlq:(s.drop q).length≤900000:=by rw[Acl];omega
  have hlq2:(s.drop q).length=s.length - q:=Acl;(refine Ap<|Ab Z<|Ak Z<|AX Z<|Ai Z Z<|AJ Z<|AD Z<|B2 Z<|BR (fun _ _=>?_));rename_i b5 T5;refine Au 0 [.int .u8 0,vZ 0,vZ 0,vZ 0,Ag [],nV,nV,vZ (q:Int),vZ 0,vZ 0] Z Z Z Z (Aca Z) Z Z<|Br<|A1 Z<|Ak Z<|Ab Z<|AU q Z Z Z hc<|AL Z<|Am<|AD Z ?_;have hin:= @R0 c [123,125,91,93,58,44]
  have p1:=h1 (d:=d') (l:=[123,125,91,93,58,44]) (c:=c);by_cases g1:E9 c=true
  ·rw[hdr,TD g1];have g2:=hin.2 (by simpa [E9] using g1);clear hin g1;generalize hix:Lib.indexByte [123,125,91,93,58,44] c=ix at g2 p1;refine AG Z p1<|A5 Z Z<|Ao Z<|Bn Z<|Ar<|Ab Z<|Ae Z<|Au 0 _ Z Z Z Z (Aca Z) Z Z<|Bt Z<|Ab Z<|Ab Z<|AY Z Z<|Ae Z<|Au 0 _ Z Z Z Z (Aca Z) Z Z<|Br<|AP 0 Z Z Z<|Au 1 _ Z Z Z Z (Aca Z) Z Z<|Bz<|Ba [.agg (Cl (EO q (c.toNat,V.zero,1,0))).toArray] ⟨Bc 1 Z Z Z,trivial⟩ (Acb _) ⟨Z,Z⟩
  have g2:¬0≤Lib.indexByte [123,125,91,93,58,44] c:=fun h=>g1 (by have:=hin.1 h;simpa [E9] using this);clear hin;generalize hix:Lib.indexByte [123,125,91,93,58,44] c=ix at g2 p1;refine AG Z p1 ?_;clear hix p1;by_cases k1:c=34
  ·rw[hdr,Tx g1 k1,←hdr];have hcn:c.toNat=34:=by rw[k1];rfl
   have p2:=h2 (d:=d') (s:=s.drop q) ht (by omega);have hrl:=Jo (s.drop q);obtain⟨n,hn⟩:∃n:Nat,(Ck (s.drop q)).2.1=n:=⟨(Ck (s.drop q)).2.1.toNat,by omega⟩
   rw[hn] at hrl p2⊢;rw[Adc];generalize (Ck (s.drop q)).1=rt at*;generalize (Ck (s.drop q)).2.2=rw' at*;refine A5 Z Z<|Ao Z<|AH Z<|AD Z<|Ai Z Z<|Ao Z<|Bn Z<|Aj<|Ae Z<|Ae Z<|Au 0 _ Z Z Z Z (Aca Z) Z Z<|Av<|Ar<|Ak Z<|Ab Z<|B6 (n:=q) Z Z Z hq<|AG Z p2<|Bm Z<|Bx Z Z Z Z<|CH Z Z<|Ae Z<|Ae Z<|Au 0 _ Z Z Z Z (Aca Z) Z Z<|Ab Z<|Ae Z<|Au 0 _ Z Z Z Z (Aca Z) Z Z<|Br<|Ab Z<|Ab Z<|AY Z Z<|Ae Z<|Au 0 _ Z Z Z Z (Aca Z) Z Z<|Br<|AP 0 Z Z Z<|Au 1 _ Z Z Z Z (Aca Z) Z Z<|Bz<|Ba [.agg (Cl (EO q (0,MF rt,n,rw'))).toArray] ⟨Bc 1 Z Z Z,trivial⟩ (Acb _) ⟨Z,Z⟩
  have hcn:c.toNat≠34:=fun h=>k1 (UInt8.toNat_inj.1 h);by_cases k2:Cc c=true
  ·have k3:97≤c.toNat∧c.toNat≤122:=by simpa [Cc] using k2
   rw[hdr,Nd g1 k1 k2,←hdr];have p3:=h3 (d:=d') (s:=s.drop q) (by omega);have hwl:(E1 (s.drop q)).2.1≤s.length - q:=by
    have:=D5 Cc (s.drop q);unfold E1;split
    ·simp only;omega
    ·exact Acu _
   generalize (E1 (s.drop q)).1=wv at*;generalize (E1 (s.drop q)).2.1=n at*;generalize (E1 (s.drop q)).2.2=we at*;clear k2 g1;refine A5 Z Z<|Ao Z<|AH Z<|AD Z<|Ai Z Z<|Ao Z<|AH Z<|AD Z<|A5 Z Z<|Ac Z<|AA Z<|Aa Z<|Ab Z<|Aa Z<|BN Z Z<|Ah Z Z<|Ao Z<|Bn Z<|Ar<|Ak Z<|Ab Z<|B6 (n:=q) Z Z Z hq<|AG Z p3<|Bm Z<|Bx Z Z Z Z<|CH Z Z<|Ae Z<|Au 0 _ Z Z Z Z (Aca Z) Z Z<|Ab Z<|Ae Z<|Au 0 _ Z Z Z Z (Aca Z) Z Z<|Br<|Ab Z<|Ab Z<|AY Z Z<|Ae Z<|Au 0 _ Z Z Z Z (Aca Z) Z Z<|Br<|AP 0 Z Z Z<|Au 1 _ Z Z Z Z (Aca Z) Z Z<|Bz<|Ba [.agg (Cl (EO q (0,wv,n,we))).toArray] ⟨Bc 1 Z Z Z,trivial⟩ (Acb _) ⟨Z,Z⟩
  have k3:¬(97≤c.toNat∧c.toNat≤122):=by simpa [Cc] using k2
  by_cases k4:c=45
  ·have hc45:c.toNat=45:=by rw[k4];rfl
   rw[hdr,one_num g1 k1 k2 (.inl k4),←hdr];clear g1 k2;have p4:=h4 (d:=d') (s:=s.drop q) ht (by omega);have hwl:(FV (s.drop q)).2.1≤s.length - q:=by have:=D5 CY (s.drop q);rw[←hlq2];exact this
   generalize (FV (s.drop q)).1=wv at*;generalize (FV (s.drop q)).2.1=n at*;generalize (FV (s.drop q)).2.2=we at*;refine A5 Z Z<|Ao Z<|AH Z<|AD Z<|Ai Z Z<|Ao Z<|AH Z<|AD Z<|A5 Z Z<|Ac Z<|Aw Z<|Aq Z Z<|Af Z Z<|Ao Z<|A7 Z<|AD Z<|Ai Z Z<|Ac Z<|AA Z<|Aq Z Z<|AF Z<|AN Z<|AN Z<|AF Z<|Ah Z Z<|Ao Z<|Ci Z<|Ar<|Ak Z<|Ab Z<|B6 (n:=q) Z Z Z hq<|AG Z p4<|Bm Z<|Bx Z Z Z Z<|CH Z Z<|Ae Z<|Au 0 _ Z Z Z Z (Aca Z) Z Z<|Ab Z<|Ae Z<|Au 0 _ Z Z Z Z (Aca Z) Z Z<|Br<|Ab Z<|Ab Z<|AY Z Z<|Ae Z<|Au 0 _ Z Z Z Z (Aca Z) Z Z<|Br<|AP 0 Z Z Z<|Au 1 _ Z Z Z Z (Aca Z) Z Z<|Bz<|Ba [.agg (Cl (EO q (0,wv,n,we))).toArray] ⟨Bc 1 Z Z Z,trivial⟩ (Acb _) ⟨Z,Z⟩
  by_cases k5:isD c=true
  ·rw[hdr,one_num g1 k1 k2 (.inr k5),←hdr];clear g1 k2;have k6:48≤c.toNat∧c.toNat≤57:=by simpa [isD] using k5
   have k7:c.toNat≠45:=by omega
   clear k5;have p4:=h4 (d:=d') (s:=s.drop q) ht (by omega);have hwl:(FV (s.drop q)).2.1≤s.length - q:=by have:=D5 CY (s.drop q);rw[←hlq2];exact this
   generalize (FV (s.drop q)).1=wv at*;generalize (FV (s.drop q)).2.1=n at*;generalize (FV (s.drop q)).2.2=we at*;refine A5 Z Z<|Ao Z<|AH Z<|AD Z<|Ai Z Z<|Ao Z<|AH Z<|AD Z<|A5 Z Z<|Ac Z<|Aw Z<|Aq Z Z<|Af Z Z<|Ao Z<|A7 Z<|AD Z<|Ai Z Z<|Ac Z<|Aw Z<|Aa Z<|Ab Z<|Aa Z<|A5 Z Z<|Aa Z<|Ac Z<|AA Z<|Aa Z<|Ab Z<|Aa Z<|BN Z Z<|Aa Z<|Ah Z Z<|Af Z Z<|Ao Z<|Bn Z<|Ar<|Ak Z<|Ab Z<|B6 (n:=q) Z Z Z hq<|AG Z p4<|Bm Z<|Bx Z Z Z Z<|CH Z Z<|Ae Z<|Au 0 _ Z Z Z Z (Aca Z) Z Z<|Ab Z<|Ae Z<|Au 0 _ Z Z Z Z (Aca Z) Z Z<|Br<|Ab Z<|Ab Z<|AY Z Z<|Ae Z<|Au 0 _ Z Z Z Z (Aca Z) Z Z<|Br<|AP 0 Z Z Z<|Au 1 _ Z Z Z Z (Aca Z) Z Z<|Bz<|Ba [.agg (Cl (EO q (0,wv,n,we))).toArray] ⟨Bc 1 Z Z Z,trivial⟩ (Acb _) ⟨Z,Z⟩
  rw[hdr,Tf g1 k1 k2 (fun h=>h.elim k4 k5)];clear g1 k2;have k7:c.toNat≠45:=fun h=>k4 (UInt8.toNat_inj.1 h);have k6:¬(48≤c.toNat∧c.toNat≤57):=by simpa [isD] using k5
  clear k5;by_cases k8:97≤c.toNat
  ·have k9:¬c.toNat≤122:=by omega
   have ka:¬c.toNat≤57:=by omega
   have kb:48≤c.toNat:=by omega
   refine A5 Z Z<|Ao Z<|AH Z<|AD Z<|Ai Z Z<|Ao Z<|AH Z<|AD Z<|A5 Z Z<|Ac Z<|AA Z<|Aa Z<|Ab Z<|Aa Z<|BN Z Z<|Ah Z Z<|Ao Z<|AH Z<|AD Z<|Ai Z Z<|Ac Z<|Aw Z<|Aa Z<|Ab Z<|Aa Z<|A5 Z Z<|Aa Z<|Ac Z<|AA Z<|Aa Z<|Ab Z<|Aa Z<|BN Z Z<|Aa Z<|Ah Z Z<|Af Z Z<|Ao Z<|AH Z<|Ar<|Ae Z<|Au 0 _ Z Z Z Z (Aca Z) Z Z<|Br<|Ab Z<|Ab Z<|AY Z Z<|Ae Z<|Au 0 _ Z Z Z Z (Aca Z) Z Z<|Br<|AP 0 Z Z Z<|Au 1 _ Z Z Z Z (Aca Z) Z Z<|Bz<|Ba [.agg (Cl (EO q (0,V.zero,0,60))).toArray] ⟨Bc 1 Z Z Z,trivial⟩ (Acb _) ⟨Z,Z⟩
  by_cases k9:48≤c.toNat
  ·have ka:¬c.toNat≤57:=by omega
   refine A5 Z Z<|Ao Z<|AH Z<|AD Z<|Ai Z Z<|Ao Z<|AH Z<|AD Z<|A5 Z Z<|Ac Z<|Aw Z<|Aq Z Z<|Af Z Z<|Ao Z<|A7 Z<|AD Z<|Ai Z Z<|Ac Z<|Aw Z<|Aa Z<|Ab Z<|Aa Z<|A5 Z Z<|Aa Z<|Ac Z<|AA Z<|Aa Z<|Ab Z<|Aa Z<|BN Z Z<|Aa Z<|Ah Z Z<|Af Z Z<|Ao Z<|AH Z<|Ar<|Ae Z<|Au 0 _ Z Z Z Z (Aca Z) Z Z<|Br<|Ab Z<|Ab Z<|AY Z Z<|Ae Z<|Au 0 _ Z Z Z Z (Aca Z) Z Z<|Br<|AP 0 Z Z Z<|Au 1 _ Z Z Z Z (Aca Z) Z Z<|Bz<|Ba [.agg (Cl (EO q (0,V.zero,0,60))).toArray] ⟨Bc 1 Z Z Z,trivial⟩ (Acb _) ⟨Z,Z⟩
  ·skip;refine A5 Z Z<|Ao Z<|AH Z<|AD Z<|Ai Z Z<|Ao Z<|AH Z<|AD Z<|A5 Z Z<|Ac Z<|Aw Z<|Aq Z Z<|Af Z Z<|Ao Z<|A7 Z<|AD Z<|Ai Z Z<|Ac Z<|Aw Z<|Aa Z<|Ab Z<|Aa Z<|A5 Z Z<|Aa Z<|Ac Z<|Aw Z<|Aq Z Z<|Aa Z<|Af Z Z<|Af Z Z<|Ao Z<|A7 Z<|Ar<|Ae Z<|Au 0 _ Z Z Z Z (Aca Z) Z Z<|Br<|Ab Z<|Ab Z<|AY Z Z<|Ae Z<|Au 0 _ Z Z Z Z (Aca Z) Z Z<|Br<|AP 0 Z Z Z<|Au 1 _ Z Z Z Z (Aca Z) Z Z<|Bz<|Ba [.agg (Cl (EO q (0,V.zero,0,60))).toArray] ⟨Bc 1 Z Z Z,trivial⟩ (Acb _) ⟨Z,Z⟩
end Go.Gk.Jsn
end
section
namespace Go.Gk.Jsn
open Go Go.Gk
attribute [local irreducible] gwp gws
def J4:∀(s:List UInt8) (k:Nat),k≤Bl s→Bl s=k+Bl (s.drop k)
 |s,0,_=>by simp
 |[],k+1,h=>by simp[Bl] at h
 |c::s,k+1,h=>by
  rw[Bl] at h⊢;by_cases q:isD c=true
  ·rw[if_pos q] at h⊢;have:=J4 s k (by omega);rw[Agk];omega
  ·rw[if_neg q] at h;omega
def N9(P:Program)(f:FuncId):Prop:=∀{d s},s.length≤100000000→AO P f [Ag s] d (vZ (Bl s:Nat))
def QX:Bo:=⟨23,[(.tmp 2)],(sR (o1 2 (.mv z0) .done) (sR (o1 3 (.mv z0) .done) (.seq (.block 0 (.loop (.seq (sR (om 4 3<|om 5 0<|o1 6 (.lens 5)<|ob 7 .lss 4 6<|om 8 7<|gT 9 8 0<|gT 10 8 3<|oT 11 8 (.sidx 9 10)<|oT 12 8 (.bin .geq 11 (.const (.int .u8 48)))<|gP 13 8 12<|om 14 13<|gT 15 14 0<|gT 16 14 3<|oT 17 14 (.sidx 15 16)<|oT 18 14 (.bin .leq 17 (.const (.int .u8 57)))<|gP 19 14 18 .done) (.cond 19 .skip (.exit 0))) (.block 1 (rG (om 20 3<|ob 21 .add 20 z1<|om 3 21 .done)))))) (sR (om 22 3<|om 2 22 .done) .ret))))⟩
def Zp{P f}(hd:dec P f=some QX):N9 P f:=by
 intro d s hl;refine AO.of' hd (Aca Z) ?_;show gwp P _ _ _ _ _;refine AD Z<|Br<|AL Z<|Ax<|Am<|BP (α:=Nat) (fun k=>[(0,Ag s),(3,vZ (k:Int))]) (fun k d' L'=>d'=d∧k≤s.length∧k≤Bl s∧L'=[]) (fun k=>s.length - k) 0 ⟨Z,Z,trivial⟩ ⟨Z,Acu _,Acu _,Z⟩ ?_;rintro k ρ d' L' ⟨hdd,hk,hr,hL⟩;subst hdd;subst hL;have hat:=J4 s k hr;by_cases hk2:k<s.length
 ·obtain⟨c,hc⟩:∃c,s[k]?=some c:=⟨_,Acf hk2⟩
  have hdr:s.drop k=c::s.drop (k+1):=by
   obtain⟨hlt,he⟩:=Acj.1 hc;rw[Acv hlt,he]
  rw[hdr,Bl] at hat;have hcb:=UInt8.toNat_lt c;by_cases g1:48≤c.toNat
  ·by_cases g2:c.toNat≤57
   ·rw[if_pos (by simp[isD,g1,g2])] at hat;refine Ap<|Ab Z<|Ak Z<|AX Z<|As Z Z<|Ac Z<|AA Z<|Aa Z<|Ak Z<|Aa Z<|Ab Z<|Aa Z<|AU k Z Z Z hc<|Aa Z<|A5 Z Z<|Ah Z Z<|Ac Z<|AA Z<|Aa Z<|Ak Z<|Aa Z<|Ab Z<|Aa Z<|AU k Z Z Z hc<|Aa Z<|BN Z Z<|Ah Z Z<|AE Z<|Ay<|Am<|Ar<|Ab Z<|AY Z Z<|AL Z ?_;exact⟨k+1,by omega,⟨Z,Z,trivial⟩,Z,by omega,by omega,Z⟩
   ·rw[if_neg (by simp[isD];omega)] at hat;refine Ap<|Ab Z<|Ak Z<|AX Z<|As Z Z<|Ac Z<|AA Z<|Aa Z<|Ak Z<|Aa Z<|Ab Z<|Aa Z<|AU k Z Z Z hc<|Aa Z<|A5 Z Z<|Ah Z Z<|Ac Z<|AA Z<|Aa Z<|Ak Z<|Aa Z<|Ab Z<|Aa Z<|AU k Z Z Z hc<|Aa Z<|BN Z Z<|Ah Z Z<|BM Z<|A6<|AD Z<|AM Z<|CX (congrArg (Value.int .i64) (by omega))
  ·rw[if_neg (by simp[isD];omega)] at hat;refine Ap<|Ab Z<|Ak Z<|AX Z<|As Z Z<|Ac Z<|AA Z<|Aa Z<|Ak Z<|Aa Z<|Ab Z<|Aa Z<|AU k Z Z Z hc<|Aa Z<|A5 Z Z<|Ah Z Z<|Ac Z<|Aw Z<|Aq Z Z<|Aq Z Z<|Af Z Z<|EX Z<|A6<|AD Z<|AM Z<|CX (congrArg (Value.int .i64) (by omega))
 ·have:s.drop k=[]:=Adb (by omega);rw[this] at hat;have h0:Bl []=0:=Z;refine Ap<|Ab Z<|Ak Z<|AX Z<|As Z Z<|Ac Z<|Aw Z<|Aq Z Z<|Aq Z Z<|Af Z Z<|Ac Z<|Aq Z Z<|Aq Z Z<|Af Z Z<|EX Z<|A6<|AD Z<|AM Z<|CX (congrArg (Value.int .i64) (by omega))
end Go.Gk.Jsn
end
section
namespace Go.Gk.Jsn
open Go Go.Gk Go.Gk.Val
attribute [local irreducible] gwp gws
variable{a:Int}
section
section
variable {P:Program}{pan:List PanicEntry→A0}{Qn:Env→A0}{Ls L:List Ad}{ρ:Env}{d:Ad}{s:GS}{t:Nat}{tk:Bool}
def Aaj{x y}{b:Int}(ex:ev ρ x=.int .u64 a)(ey:ev ρ y=.int .u64 b)(h1:0≤a+b)(h2:a+b<18446744073709551616)
  (h:gws P pan Qn s Ls (upd ρ t (.int .u64 (a+b))) d L):gws P pan Qn (.op tk ⟨some t,none,.bin .add x y⟩ s) Ls ρ d L:=
 Wj ex ey (by simpa [IntKind.signed] using h1) (by simpa [IntKind.signed,IntKind.bits] using h2) h
def AaP{x y}{b:Int}(ex:ev ρ x=.int .u64 a)(ey:ev ρ y=.int .u64 b)(h1:0≤a*b)(h2:a*b<18446744073709551616)
  (h:gws P pan Qn s Ls (upd ρ t (.int .u64 (a*b))) d L):gws P pan Qn (.op tk ⟨some t,none,.bin .mul x y⟩ s) Ls ρ d L:=
 Dg (by rw[ex,ey];simp only[De,ne_eq,not_true_eq_false,if_false];rw[Gz (by simpa [IntKind.signed] using h1) (by simpa [IntKind.signed,IntKind.bits] using h2)]) h
def WU{x j}(ex:ev ρ x=.int j a)(h1:0≤a)(h2:a<18446744073709551616)(h:gws P pan Qn s Ls (upd ρ t (.int .u64 a)) d L):gws P pan Qn (.op tk ⟨some t,none,.cvi .u64 x⟩ s) Ls ρ d L:=
 RH ex (by simpa [IntKind.signed] using h1) (by simpa [IntKind.signed,IntKind.bits] using h2) h
def WI{x y}{b:Int}(ex:ev ρ x=.int .u64 a)(ey:ev ρ y=.int .u64 b)(h1:0≤a)(h2:0<b)(h3:a<18446744073709551616)
  (h:gws P pan Qn s Ls (upd ρ t (.int .u64 (a / b))) d L):gws P pan Qn (.op tk ⟨some t,none,.bin .quo x y⟩ s) Ls ρ d L:=by
 refine Dg ?_ h
 have h4:¬b=0:=by omega
 have h5:a.tdiv b=a / b:=Int.tdiv_eq_ediv_of_nonneg h1
 have h6:0≤a / b:=Int.ediv_nonneg h1 (by omega)
 have h7:a / b≤a:=Int.ediv_le_self b h1
 rw[ex,ey]
 simp only[De,ne_eq,not_true_eq_false,if_false,h4,h5]
 rw[Gz (by simpa [IntKind.signed] using h6) (by simp[IntKind.signed,IntKind.bits];omega)]
end
def Jw(s:List UInt8):Int×Bool:=match ED s with|none=>(0,false)|some x=>(sgn x.1 (Gg x.2),true)
def PJ(s:List UInt8)(c:UInt8):Gg (s++[c])=min (Gg s*10+dg c) 1099511627776:=by simp[Gg]
def Pj:∀(n:Nat) (s:List UInt8),s.length=n→Gg s≤1099511627776
 |0,s,h=>by
  have:s=[]:=Acm h;subst this;decide
 |n+1,s,h=>by
  have hne:s≠[]:=by intro q;subst q;cases h
  rw[←Afb hne,PJ];exact Nat.min_le_right _ _
def Ux(P:Program)(f:FuncId):Prop:=∀{d s},s.length≤1000000→AO P f [Ag s] d (.tuple #[vZ (Jw s).1,.bool (Jw s).2])
def Z0{s}(h:ED s=none):Jw s=(0,false):=by rw[Jw,h]
def LF{c:UInt8}{r}(h:¬(c.toNat≠101∧c.toNat≠69)):ED (c::r)=if Bl (if decide (r.head?=some 45)=true∨r.head?=some 43 then r.tail else r)=0∨Bl (if decide (r.head?=some 45)=true∨r.head?=some 43 then r.tail else r)<(if decide (r.head?=some 45)=true∨r.head?=some 43 then r.tail else r).length then none else some (decide (r.head?=some 45),if decide (r.head?=some 45)=true∨r.head?=some 43 then r.tail else r):=by
 rw[ED,if_neg h]
def PD(a0 a1:Nat):Bo:=⟨58,[(.tmp 2),(.tmp 3)],(sR (o1 2 (.mv z0)<|o1 3 (.mv (.const (.bool false))) .done) (.seq (sR (om 8 0<|ob 9 .eql 8 (.const (Ag [])) .done) (.cond 9 (sR (o1 2 (.mv z0)<|o1 3 (.mv (.const (.bool true))) .done) .ret) .skip)) (.seq (sR (om 10 0<|o1 11 (.sidx 10 z0)<|ob 12 .neq 11 (.const (.int .u8 101))<|om 13 12<|gT 14 13 0<|oT 15 13 (.sidx 14 z0)<|oT 16 13 (.bin .neq 15 (.const (.int .u8 69)))<|gP 17 13 16 .done) (.cond 17 (sR (o1 2 (.mv z0)<|o1 3 (.mv (.const (.bool false))) .done) .ret) .skip)) (sR (om 18 0<|o1 19 (.sls 18 (some z1) none)<|om 0 19 .done) (sR (om 20 0<|oc 21 a0 [20,(.const (Ag [45]))]<|om 4 21 .done) (.seq (sR (om 22 4<|om 23 22<|gF 24 23 0<|oF 25 23 (.call a0 [24,(.const (Ag [43]))])<|o1 26 (.pick 23 (.const (.bool true)) 25) .done) (.cond 26 (rG (om 27 0<|o1 28 (.sls 27 (some z1) none)<|om 0 28 .done)) .skip)) (.seq (sR (om 29 0<|oc 30 a1 [29]<|om 5 30 .done) (sR (om 31 5<|ob 32 .eql 31 z0<|om 33 32<|gF 34 33 5<|gF 35 33 0<|oF 36 33 (.lens 35)<|oF 37 33 (.bin .lss 34 36)<|o1 38 (.pick 33 (.const (.bool true)) 37) .done) (.cond 38 (sR (o1 2 (.mv z0)<|o1 3 (.mv (.const (.bool false))) .done) .ret) .skip))) (sR (o1 6 (.mv z0) .done) (.seq (sR (om 39 0<|o1 40 (.lens 39)<|o1 41 (.mv z0) .done) (.block 0 (.loop (sR (ob 42 .lss 41 40 .done) (.seq (.cond 42 .skip (.exit 0)) (.seq (.block 1 (sR (om 43 41<|om 7 43 .done) (rG (om 44 6<|ob 45 .mul 44 (kZ 10)<|om 46 0<|om 47 7<|o1 48 (.sidx 46 47)<|ob 49 .sub 48 (.const (.int .u8 48))<|o1 50 (.cvi .i64 49)<|ob 51 .add 45 50<|o1 52 (.mn2 51 (kZ 1099511627776))<|om 6 52 .done)))) (rG (ob 53 .add 41 z1<|om 41 53 .done)))))))) (.seq (sR (om 54 4 .done) (.cond 54 (rG (om 55 6<|o1 56 (.un .neg 55)<|om 6 56 .done)) .skip)) (sR (om 57 6<|om 2 57<|o1 3 (.mv (.const (.bool true))) .done) .ret)))))))))))⟩
set_option maxHeartbeats 1000000 in
def AaI{P f f1 f2}(hd:dec P f=some (PD f1 f2))(h1:NZ P f1)(h2:N9 P f2):Ux P f:=by
 intro d s hl;refine AO.of' hd (Aca Z) ?_;show gwp P _ _ _ _ _;cases s with
 |nil=>
  (refine AD Z<|Ao Z<|Ap<|Ak Z<|CS Z Z<|Av<|Hb Z (by with_reducible rfl)<|AD Z<|Bk Z ?_)
  exact Ba [vZ 0,.bool true] ⟨Z,Z,trivial⟩ (Acb _) ⟨Z,Z⟩
 |cons c r=>
 have hc:(c::r)[0]?=some c:=Z;have hne:¬(c::r)=([]:List UInt8):=by simp
 have hcb:=UInt8.toNat_lt c;rw[Acg] at hl;have bad:∀(ρ:Env) (d':Ad) (L:List Ad),ρ 2=vZ 0→ρ 3=.bool false→ED (c::r)=none→Cb [.tmp 2,.tmp 3] (Ret fun v _ L'=>v=.tuple #[vZ (Jw (c::r)).1,.bool (Jw (c::r)).2]∧L'=[]) ρ d' L:=fun ρ d' L e2 e3 e=>by
  rw[Z0 e];exact Ba [vZ 0,.bool false] ⟨e2.symm,e3.symm,trivial⟩ (Acb _) ⟨Z,Z⟩
 (refine AD Z<|Ao Z<|Ap<|Ak Z<|CS Z Z<|BM Z ?_);apply Ay;refine CJ (fun ρ d' L'=>¬(c.toNat≠101∧c.toNat≠69)∧AZ ρ [(0,Ag (c::r))]∧d'=d∧L'=[]) ?_ ?_
 ·by_cases k1:c.toNat=101
  ·refine Aj<|Ak Z<|AU 0 Z Z Z hc<|AB Z Z<|Ac Z<|Aw Z<|Aq Z Z<|AF Z<|Af Z Z<|Bh Z ?_;exact⟨by omega,⟨Z,trivial⟩,Z,Z⟩
  by_cases k2:c.toNat=69
  ·refine Aj<|Ak Z<|AU 0 Z Z Z hc<|AB Z Z<|Ac Z<|AA Z<|Aa Z<|Ak Z<|Aa Z<|AU 0 Z Z Z hc<|Aa Z<|AB Z Z<|Ah Z Z<|AJ Z ?_;exact⟨by omega,⟨Z,trivial⟩,Z,Z⟩
  ·refine Aj<|Ak Z<|AU 0 Z Z Z hc<|AB Z Z<|Ac Z<|AA Z<|Aa Z<|Ak Z<|Aa Z<|AU 0 Z Z Z hc<|Aa Z<|AB Z Z<|Ah Z Z<|AE Z<|AD Z<|Bk Z<|bad _ _ _ Z Z (by rw[ED,if_pos ⟨by omega,by omega⟩])
 rintro ρ d' L' ⟨hce,hs,hdd,hL⟩;subst hdd;subst hL;have hcut:=LF (r:=r) hce;refine A4 _ hs ?_;clear hs;refine Aj<|Ak Z<|B6 (n:=1) Z Z Z (by simp)<|Ak Z<|Br<|Ak Z ?_;have p1:=h1 (d:=d') (l:=r) (c:=45);have p2:=h1 (d:=d') (l:=r) (c:=43);refine AG Z p1<|Ao Z<|CJ (fun ρ d2 L'=>AZ ρ [(0,Ag (if decide (r.head?=some 45)=true∨r.head?=some 43 then r.tail else r)),(4,.bool (decide (r.head?=some 45)))]∧d2=d'∧L'=[]) ?_ ?_
 ·by_cases k1:r.head?=some 45
  ·rw[if_pos (.inl (by simpa using k1)),decide_eq_true k1];have hr0:1≤r.length:=by cases r with|nil=>cases k1|cons=>simp
   clear hcut p1 p2 k1;refine Aj<|Ac Z<|Ac Z<|Aq Z Z<|Ah Z Z<|BK Z<|Ar<|Ak Z<|B6 (n:=1) Z Z Z hr0<|Ak Z<|Av ?_;exact⟨⟨congrArg Ag Agm,Z,trivial⟩,Z,Z⟩
  ·rw[decide_eq_false k1];by_cases k2:r.head?=some 43
   ·rw[if_pos (.inr k2)];rw[decide_eq_true k2] at p2;have hr0:1≤r.length:=by cases r with|nil=>cases k2|cons=>simp
    clear hcut p1 k1 k2;refine Aj<|Ac Z<|Ac Z<|Aa Z<|Ak Z<|Aa Z<|AG Z p2<|Af Z Z<|BK Z<|Ar<|Ak Z<|B6 (n:=1) Z Z Z hr0<|Ak Z<|Av ?_;exact⟨⟨congrArg Ag Agm,Z,trivial⟩,Z,Z⟩
   ·rw[if_neg (fun h=>h.elim (fun h=>by cases h) k2)];rw[decide_eq_false k2] at p2;clear hcut p1 k1 k2;refine Aj<|Ac Z<|Ac Z<|Aa Z<|Ak Z<|Aa Z<|AG Z p2<|Af Z Z<|Bh Z ?_;exact⟨⟨Z,Z,trivial⟩,Z,Z⟩
 rintro ρ d2 L' ⟨hs,hdd,hL⟩;subst hdd;subst hL;have hxl:(if decide (r.head?=some 45)=true∨r.head?=some 43 then r.tail else r).length≤r.length:=by
  split
  ·rw[Agp];omega
  ·exact Ack _
 generalize (if decide (r.head?=some 45)=true∨r.head?=some 43 then r.tail else r)=x at*;generalize decide (r.head?=some 45)=neg at*;refine A4 _ hs ?_;clear hs p1 p2;refine Ap<|Ak Z<|AG Z (h2 (s:=x) (by omega)) ?_;have hrx:=EJ x;by_cases k1:Bl x=0
 ·refine Bt Z<|Ab Z<|Ai Z Z<|Ac Z<|AA Z<|Aq Z Z<|Aq Z Z<|Ah Z Z<|BK Z<|AD Z<|Bk Z<|bad _ _ _ Z Z (by rw[hcut,if_pos (.inl k1)])
 by_cases k2:Bl x<x.length
 ·refine Bt Z<|Ab Z<|Ai Z Z<|Ac Z<|Aw Z<|Aa Z<|Ab Z<|Aa Z<|Ak Z<|Aa Z<|AX Z<|Aa Z<|As Z Z<|Af Z Z<|AE Z<|AD Z<|Bk Z<|bad _ _ _ Z Z (by rw[hcut,if_pos (.inr k2)])
 rw[if_neg (fun h=>h.elim k1 k2)] at hcut;have hall:∀u∈x,isD u=true:=by
  have:=Ht x;rwa [Adm (by omega)] at this
 have hex:Jw (c::r)=(sgn neg (Gg x),true):=by rw[Jw,hcut]
 clear bad hcut;rw[hex];refine Bt Z<|Ab Z<|Ai Z Z<|Ac Z<|Aw Z<|Aa Z<|Ab Z<|Aa Z<|Ak Z<|Aa Z<|AX Z<|Aa Z<|As Z Z<|Af Z Z<|AJ Z<|AD Z<|Bw<|Ak Z<|AX Z<|AL Z<|Am<|FJ 0 (fun ρ d3 L'=>AZ ρ [(4,.bool neg),(6,vZ (Gg x:Nat))]∧d3=d2∧L'=[]) ?_ ?_
 ·refine BP (α:=Nat) (fun k=>[(0,Ag x),(4,.bool neg),(40,vZ (x.length:Nat)),(6,vZ (Gg (x.take k):Nat)),(41,vZ (k:Int))]) (fun k d3 L'=>d3=d2∧k≤x.length∧L'=[]) (fun k=>x.length - k) 0 ⟨Z,Z,Z,Z,Z,trivial⟩ ⟨Z,Acu _,Z⟩ ?_;rintro k ρ d3 L' ⟨hdd,hk,hL⟩;subst hdd;subst hL;have hcl:=Pj _ (x.take k) Z;by_cases hk2:k<x.length
  ·have hcx:x[k]?=some x[k]:=Acf hk2;have hdg:=hall _ (Acq hk2);have hsn:=PJ (x.take k) x[k];rw[←Acx hk2] at hsn;have hd9:=Io hdg;have hd48:48≤x[k].toNat:=by simp[isD] at hdg;exact hdg.1
   have hub:=UInt8.toNat_lt x[k];generalize x[k]=u at*;have hdu:((dg u:Nat):Int)=(u.toNat:Int) - 48:=by unfold dg;omega
   clear hdg;refine Aj<|As Z Z<|Cr<|Bn Z<|Ay<|Ax<|Am<|AD Z<|AL Z<|Ar<|Ab Z<|Me Z Z (by omega) (by omega)<|Ak Z<|Ab Z<|AU k Z Z Z hcx<|JQ Z Z (by omega) (by omega)<|Gu Z (by omega) (by omega)<|AY Z Z<|N4 Z Z<|AL Z<|Ar<|AY Z Z<|AL Z ?_;exact⟨k+1,by omega,⟨Z,Z,Z,congrArg (Value.int .i64) (by rw[hsn];omega),Z,trivial⟩,Z,by omega,Z⟩
  ·(refine Aj<|As Z Z<|Cr<|AH Z<|A6 ?_);rw[Adm (by omega)];exact Er 0 ⟨⟨Z,Z,trivial⟩,Z,Z⟩
 rintro ρ d3 L' ⟨hs,hdd,hL⟩;subst hdd;subst hL;have hcl:=Pj _ x Z;show gwp P _ _ _ _ _;refine A4 _ hs ?_;clear hs;cases neg with
 |true=>
  (refine Ap<|Ao Z<|Ci Z<|Ar<|Ab Z<|Ik Z (by omega) (by omega)<|Bt Z<|Ab Z<|Ab Z<|Bk Z ?_)
  exact Ba [vZ (sgn true (Gg x)),.bool true] ⟨Z,Z,trivial⟩ (Acb _) ⟨Z,Z⟩
 |false=>
  (refine Ap<|Ao Z<|A7 Z<|Ay<|AD Z<|Ab Z<|Bk Z ?_)
  exact Ba [vZ (sgn false (Gg x)),.bool true] ⟨Z,Z,trivial⟩ (Acb _) ⟨Z,Z⟩
end
def Sp(P:Program)(f:FuncId):Prop:=∀{d}{m:Nat},m<18446744073709551616→AO P f [.int .u64 0,.int .u64 (m:Int),.int .u64 10] d (.tuple #[.int .u64 ((m:Int) / 10),.int .u64 ((m:Int) % 10)])
def MZ(a0 a1 a2:Nat):Bo:=⟨135,[(.tmp 6),(.tmp 7)],(sR (o1 6 (.mv (.const (.int .u64 0)))<|o1 7 (.mv (.const (.int .u64 0))) .done) (.seq (sR (om 19 2<|ob 20 .eql 19 (.const (.int .u64 0)) .done) (.cond 20 (rG (o1 21 (.ld none (.global a0))<|o0 (.pan 21) .done)) .skip)) (.seq (sR (om 22 2<|om 23 0<|ob 24 .leq 22 23 .done) (.cond 24 (rG (o1 25 (.ld none (.global a1))<|o0 (.pan 25) .done)) .skip)) (.seq (sR (om 26 0<|ob 27 .eql 26 (.const (.int .u64 0)) .done) (.cond 27 (.seq (.reg true (pm 28 1<|pm 29 2<|p1 30 (.bin .quo 28 29)<|pm 31 1<|pm 32 2<|p1 33 (.bin .rem 31 32)<|pm 6 30<|pm 7 33 .done)) .ret) .skip)) (sR (om 34 2<|oc 35 a2 [34]<|o1 36 (.cvi .u64 35)<|om 8 36 .done) (sR (om 37 2<|om 38 8<|ob 39 .shl 37 38<|om 2 39 .done) (sR (om 40 2<|ob 41 .shr 40 (.const (.int .u64 32))<|om 9 41 .done) (sR (om 42 2<|ob 43 .and 42 (.const (.int .u64 4294967295))<|om 10 43 .done) (sR (om 44 0<|om 45 8<|ob 46 .shl 44 45<|om 47 1<|om 48 8<|ob 49 .sub (.const (.int .u64 64)) 48<|ob 50 .shr 47 49<|ob 51 .or 46 50<|om 11 51 .done) (sR (om 52 1<|om 53 8<|ob 54 .shl 52 53<|om 12 54 .done) (sR (om 55 12<|ob 56 .shr 55 (.const (.int .u64 32))<|om 13 56 .done) (sR (om 57 12<|ob 58 .and 57 (.const (.int .u64 4294967295))<|om 14 58 .done) (sR (om 59 11<|om 60 9<|ob 61 .quo 59 60<|om 15 61 .done) (sR (om 62 11<|om 63 15<|om 64 9<|ob 65 .mul 63 64<|ob 66 .sub 62 65<|om 16 66 .done) (.seq (.block 0 (.loop (.seq (sR (om 67 15<|ob 68 .geq 67 (.const (.int .u64 4294967296))<|om 69 68<|gF 70 69 15<|gF 71 69 10<|oF 72 69 (.bin .mul 70 71)<|gF 73 69 16<|oF 74 69 (.bin .mul (.const (.int .u64 4294967296)) 73)<|gF 75 69 13<|oF 76 69 (.bin .add 74 75)<|oF 77 69 (.bin .gtr 72 76)<|o1 78 (.pick 69 (.const (.bool true)) 77) .done) (.cond 78 .skip (.exit 0))) (.block 1 (sR (om 79 15<|ob 80 .sub 79 (.const (.int .u64 1))<|om 15 80 .done) (sR (om 81 16<|om 82 9<|ob 83 .add 81 82<|om 16 83 .done) (sR (om 84 16<|ob 85 .geq 84 (.const (.int .u64 4294967296)) .done) (.cond 85 (.exit 0) .skip)))))))) (sR (om 86 11<|ob 87 .mul 86 (.const (.int .u64 4294967296))<|om 88 13<|ob 89 .add 87 88<|om 90 15<|om 91 2<|ob 92 .mul 90 91<|ob 93 .sub 89 92<|om 17 93 .done) (sR (om 94 17<|om 95 9<|ob 96 .quo 94 95<|om 18 96 .done) (sR (om 97 17<|om 98 18<|om 99 9<|ob 100 .mul 98 99<|ob 101 .sub 97 100<|om 16 101 .done) (.seq (.block 2 (.loop (.seq (sR (om 102 18<|ob 103 .geq 102 (.const (.int .u64 4294967296))<|om 104 103<|gF 105 104 18<|gF 106 104 10<|oF 107 104 (.bin .mul 105 106)<|gF 108 104 16<|oF 109 104 (.bin .mul (.const (.int .u64 4294967296)) 108)<|gF 110 104 14<|oF 111 104 (.bin .add 109 110)<|oF 112 104 (.bin .gtr 107 111)<|o1 113 (.pick 104 (.const (.bool true)) 112) .done) (.cond 113 .skip (.exit 2))) (.block 3 (sR (om 114 18<|ob 115 .sub 114 (.const (.int .u64 1))<|om 18 115 .done) (sR (om 116 16<|om 117 9<|ob 118 .add 116 117<|om 16 118 .done) (sR (om 119 16<|ob 120 .geq 119 (.const (.int .u64 4294967296)) .done) (.cond 120 (.exit 2) .skip)))))))) (sR (om 121 15<|ob 122 .mul 121 (.const (.int .u64 4294967296))<|om 123 18<|ob 124 .add 122 123<|om 125 17<|ob 126 .mul 125 (.const (.int .u64 4294967296))<|om 127 14<|ob 128 .add 126 127<|om 129 18<|om 130 2<|ob 131 .mul 129 130<|ob 132 .sub 128 131<|om 133 8<|ob 134 .shr 132 133<|om 6 124<|om 7 134 .done) .ret))))))))))))))))))))⟩
def YA{P f g1 g2 f3}(hd:dec P f=some (MZ g1 g2 f3)):Sp P f:=by
 intro d m hm;refine AO.of' hd (Aca Z) ?_;show gwp P _ _ _ _ _;refine AD Z<|A1 Z<|Ab Z<|Ai Z Z<|AJ Z<|Ap<|Ab Z<|Ab Z<|BN Z Z<|AJ Z<|Ap<|Ab Z<|Ai Z Z<|AE Z<|Ax<|Bd<|Ab Z<|Ab Z<|WI Z Z (by omega) (by omega) (by omega)<|Ab Z<|Ab Z<|Fc Z Z (by omega) (by omega)<|Ab Z<|AM Z<|Dy Z Z
def MK(neg:Bool)(m:Nat)(e:Int):Int×Int×Int:=if e< -64∨64<e then(0,0,11) else(sgn neg m,e,0)
def Pm(T:Ad→Prop)(P:Program)(f:FuncId):Prop:=∀{d}{neg:Bool}{m:Nat}{e:Int},T d→m<1000000000000000000→m % 10≠0→I64 e→AO P f [.bool neg,.int .u64 0,.int .u64 (m:Int),vZ e] d (.tuple #[.agg [vZ (MK neg m e).1,vZ (MK neg m e).2.1].toArray,vZ (MK neg m e).2.2])
def UN(a0 a1 a2:Nat):Bo:=⟨64,[(.cell 8 (some 2)),(.tmp 9)],(sR (o1 8 (.alo (.agg #[(vZ 0),(vZ 0)]))<|o1 9 (.mv z0) .done) (.seq (sR (om 14 1<|ob 15 .eql 14 (.const (.int .u64 0))<|om 16 15<|gT 17 16 2<|oT 18 16 (.bin .eql 17 (.const (.int .u64 0)))<|gP 19 16 18 .done) (.cond 19 (sR (oc 20 a0 []<|o0 (.st 2 8 20)<|o1 9 (.mv z0) .done) .ret) .skip)) (.seq (.block 0 (.loop (.block 1 (sR (om 21 1<|ob 22 .quo 21 (.const (.int .u64 10))<|om 23 1<|ob 24 .rem 23 (.const (.int .u64 10))<|om 10 22<|om 11 24 .done) (sR (om 26 11<|om 27 2<|oc 28 a1 [26,27,(.const (.int .u64 10))]<|om 25 28<|oe 29 25 0<|oe 30 25 1<|om 12 29<|om 13 30 .done) (.seq (sR (om 31 13<|ob 32 .neq 31 (.const (.int .u64 0)) .done) (.cond 32 (.exit 0) .skip)) (rG (om 33 10<|om 34 12<|om 35 3<|ob 36 .add 35 z1<|om 1 33<|om 2 34<|om 3 36 .done)))))))) (.seq (sR (om 37 1<|ob 38 .neq 37 (.const (.int .u64 0))<|om 39 38<|gF 40 39 2<|oF 41 39 (.idxa 20 1 (.global a2) (kZ 18))<|oF 42 39 (.ld none 41)<|oF 43 39 (.bin .geq 40 42)<|o1 44 (.pick 39 (.const (.bool true)) 43)<|om 45 44<|gF 46 45 3<|oF 47 45 (.bin .lss 46 (kZ (-64)))<|o1 48 (.pick 45 (.const (.bool true)) 47)<|om 49 48<|gF 50 49 3<|oF 51 49 (.bin .gtr 50 (kZ 64))<|o1 52 (.pick 49 (.const (.bool true)) 51) .done) (.cond 52 (sR (oc 53 a0 []<|o0 (.st 2 8 53)<|o1 9 (.mv (kZ 11)) .done) .ret) .skip)) (.seq (sR (om 54 0 .done) (.cond 54 (sR (om 55 2<|o1 56 (.cvi .i64 55)<|o1 57 (.un .neg 56)<|om 58 3<|o1 59 (.bld [(0,1),(1,1)] [(vZ 0),(vZ 0)] [(0,57),(1,58)])<|o0 (.st 2 8 59)<|o1 9 (.mv z0) .done) .ret) .skip)) (sR (om 60 2<|o1 61 (.cvi .i64 60)<|om 62 3<|o1 63 (.bld [(0,1),(1,1)] [(vZ 0),(vZ 0)] [(0,61),(1,62)])<|o0 (.st 2 8 63)<|o1 9 (.mv z0) .done) .ret))))))⟩
def Xq{T:Ad→Prop}{P f f1 f2 g3}(hT:∀d,T d→DCs d g3 0 Ij)(hd:dec P f=some (UN f1 f2 g3))(h1:Lh P f1)(h2:Sp P f2):Pm T P f:=by
 intro d neg m e ht hm h10 he;have htab:=hT d ht;have ht18:DC d g3 18 (.int .u64 1000000000000000000):=htab.at (i:=18) Z;refine AO.of' hd (Aca Z) ?_;show gwp P _ _ _ _ _;have hm0:¬(m:Int)=0:=by omega
 have hr0:(m:Int) % 10≠0:=by omega
 (refine Aj<|BR (fun _ _=>A1 Z<|Ab Z<|Ai Z Z<|Ac Z<|AA Z<|Aa Z<|Ab Z<|Aa Z<|Ai Z Z<|Ah Z Z<|AJ Z<|Ax<|Am ?_));rename_i b8 T8;refine FJ 0 (fun ρ d' L'=>AZ ρ [(0,.bool neg),(1,.int .u64 0),(2,.int .u64 (m:Int)),(3,vZ e),(8,pZ b8)]∧d'=d∧L'=[bx b8 T8 [vZ 0,vZ 0]]) ?_ ?_
 ·refine BP (α:=Unit) (fun k=>[(0,.bool neg),(1,.int .u64 0),(2,.int .u64 (m:Int)),(3,vZ e),(8,pZ b8)]) (fun k d' L'=>d'=d∧L'=[bx b8 T8 [vZ 0,vZ 0]]) (fun k=>0) () ⟨Z,Z,Z,Z,Z,trivial⟩ ⟨Z,Z⟩ ?_;rintro k ρ d' L' ⟨hdd,hL⟩;subst hdd;subst hL;refine Am<|AD Z<|WI Z Z (by omega) (by omega) (by omega)<|Ab Z<|Fc Z Z (by omega) (by omega)<|Ab Z<|Bt Z<|Ab Z<|Ab Z<|AG Z (h2 (m:=m) (by omega))<|Bm Z<|Bx Z Z Z Z<|Ab Z<|A1 Z<|Ab Z<|AB Z Z<|AE Z<|A6<|Er 0 ⟨⟨Z,Z,Z,Z,Z,trivial⟩,Z,Z⟩
 rintro ρ d' L' ⟨hs,hdd,hL⟩;subst hdd;subst hL;show gwp P _ _ _ _ _;refine A4 _ hs ?_;clear hs;unfold MK;have hlt:¬(1000000000000000000:Int)≤(m:Int):=by omega
 refine Ap<|Ab Z<|AB Z Z<|Ac Z<|Aw Z<|Aa Z<|Ab Z<|Aa Z<|Dd 18 Z Z Z (by omega)<|Aa Z<|Al Z (C0 (by assumption))<|Aa Z<|A5 Z Z<|Af Z Z<|Ac Z<|Aw Z<|Aa Z<|Ab Z<|Aa Z<|As Z Z<|Af Z Z<|Ac Z ?_;by_cases k1:e< -64
 ·rw[if_pos (.inl k1)];refine AA Z<|Aq Z Z<|Ah Z Z<|BK Z<|Aj<|AG Z h1<|Au 0 _ Z Z Z Z (Aca Z) Z Z<|AM Z<|Ba [.agg [vZ 0,vZ 0].toArray,vZ 11] ⟨Bc 0 Z Z Z,Z,trivial⟩ (Acb _) ⟨Z,Z⟩
 by_cases k2:64<e
 ·rw[if_pos (.inr k2)];refine Aw Z<|Aa Z<|Ab Z<|Aa Z<|AS Z Z<|Af Z Z<|AE Z<|Aj<|AG Z h1<|Au 0 _ Z Z Z Z (Aca Z) Z Z<|AM Z<|Ba [.agg [vZ 0,vZ 0].toArray,vZ 11] ⟨Bc 0 Z Z Z,Z,trivial⟩ (Acb _) ⟨Z,Z⟩
 rw[if_neg (by omega)];cases neg with
 |true=>
  (refine Aw Z<|Aa Z<|Ab Z<|Aa Z<|AS Z Z<|Af Z Z<|AJ Z<|Ap<|Ao Z<|Ci Z<|AD Z<|Gu Z (by omega) (by omega)<|Ik Z (by omega) (by omega)<|Ab Z<|TB Z Z ?_)
  refine Au 0 _ Z Z Z Z (Aca Z) Z Z ?_
  (refine AM Z ?_)
  exact Ba [.agg [vZ (-(m:Int)),vZ e].toArray,vZ 0] ⟨Bc 0 Z Z Z,Z,trivial⟩ (Acb _) ⟨Z,Z⟩
 |false=>
  (refine Aw Z<|Aa Z<|Ab Z<|Aa Z<|AS Z Z<|Af Z Z<|AJ Z<|Ap<|Ao Z<|A7 Z<|Ay<|AD Z<|Gu Z (by omega) (by omega)<|Ab Z<|TB Z Z ?_)
  refine Au 0 _ Z Z Z Z (Aca Z) Z Z ?_
  (refine AM Z ?_)
  exact Ba [.agg [vZ (m:Int),vZ e].toArray,vZ 0] ⟨Bc 0 Z Z Z,Z,trivial⟩ (Acb _) ⟨Z,Z⟩
def KL{P}{Q:CZ}{a:CO}{ρ d L}(M:Env→A0)(h1:gwp P a {Q with n:=M} ρ d L)(h2:∀ρ d L,M ρ d L→Q.n ρ d L):gwp P a Q ρ d L:=EP h2 h1
def O7(neg:Bool)(s:List UInt8):Option NT:=
 if Bl s=0∨(1<Bl s∧s.head?=some 48) then none else
 if (s.drop (Bl s)).head?=some 46 then
  if Bl (s.drop (Bl s)).tail=0 then none else some ⟨neg,s.take (Bl s),(s.drop (Bl s)).tail.take (Bl (s.drop (Bl s)).tail),(s.drop (Bl s)).tail.drop (Bl (s.drop (Bl s)).tail)⟩
 else some ⟨neg,s.take (Bl s),[],s.drop (Bl s)⟩
def Rf(s:List UInt8):FL s=O7 (decide (s.head?=some 45)) (if decide (s.head?=some 45)=true then s.tail else s):=Z
def Nw{s}(h:FL s=none):DX s=(0,0,10):=by rw[DX,h]
def Yx{s}{t:NT}(h:FL s=some t)(hx:ED t.x=none):DX s=(0,0,10):=by
 rw[DX,h];simp only;rw[hx]
def XH{s}{t:NT}{x:Bool×List UInt8}(h:FL s=some t)(hx:ED t.x=some x):DX s=
  if C6 (CU (t.w++t.f))=[] then(0,0,0) else if 18<(C6 (CU (t.w++t.f))).length then(0,0,11) else
   MK t.neg (Gr (C6 (CU (t.w++t.f)))) (sgn x.1 (Gg x.2) - t.f.length+(CU (t.w++t.f)).length - (C6 (CU (t.w++t.f))).length):=by
 rw[DX,h];simp only;rw[hx];rfl
def Wc{s}(hd:∀c∈s,isD c=true)(h:C6 s≠[]):Gr (C6 s) % 10≠0∧∀c∈C6 s,isD c=true:=by
 have hd2:∀c∈C6 s,isD c=true:=fun c hc=>hd c ((Js _).2 c hc);refine⟨?_,hd2⟩
 obtain⟨c,u,hcu⟩:∃c u,CU s.reverse=c::u:=by
  cases he:CU s.reverse with
  |nil=>rw[C6,he] at h;exact absurd Z h
  |cons c u=>exact⟨c,u,Z⟩
 have hbe:C6 s=u.reverse++[c]:=by rw[C6,hcu,Ael]
 have hcd:isD c=true:=hd2 c (by rw[hbe];simp);have h1:=Io hcd;have h2:dg c≠0:=fun q=>KA hcu ((IA hcd).1 q);rw[hbe,Jh];omega
def SX(a0 a1 a2 a3 a4 a5 a6:Nat):Bo:=⟨104,[(.cell 2 (some 2)),(.tmp 3)],(sR (o1 2 (.alo (.agg #[(vZ 0),(vZ 0)]))<|o1 3 (.mv z0) .done) (sR (om 14 0<|oc 15 a0 [14,(.const (Ag [45]))]<|om 4 15 .done) (.seq (sR (om 16 4 .done) (.cond 16 (rG (om 17 0<|o1 18 (.sls 17 (some z1) none)<|om 0 18 .done)) .skip)) (sR (om 19 0<|oc 20 a1 [19]<|om 5 20 .done) (.seq (sR (om 21 5<|ob 22 .eql 21 z0<|om 23 22<|gF 24 23 5<|oF 25 23 (.bin .gtr 24 z1)<|gF 26 23 25<|gT 27 26 0<|oT 28 26 (.sidx 27 z0)<|oT 29 26 (.bin .eql 28 (.const (.int .u8 48)))<|oF 30 23 (.pick 26 29 (.const (.bool false)))<|o1 31 (.pick 23 (.const (.bool true)) 30) .done) (.cond 31 (sR (oc 32 a2 []<|o0 (.st 2 2 32)<|o1 3 (.mv (kZ 10)) .done) .ret) .skip)) (.seq (.reg true (pm 33 0<|pm 34 5<|p1 35 (.sls 33 none (some 34))<|pm 36 0<|pm 37 5<|p1 38 (.sls 36 (some 37) none)<|pm 6 35<|pm 7 38 .done)) (sR (o1 8 (.mv z0) .done) (.seq (sR (om 39 7<|oc 40 a0 [39,(.const (Ag [46]))] .done) (.cond 40 (sR (om 41 7<|o1 42 (.sls 41 (some z1) none)<|oc 43 a1 [42]<|om 8 43 .done) (.seq (sR (om 44 8<|ob 45 .eql 44 z0 .done) (.cond 45 (sR (oc 46 a2 []<|o0 (.st 2 2 46)<|o1 3 (.mv (kZ 10)) .done) .ret) .skip)) (.reg true (pm 47 6<|pm 48 7<|pm 49 8<|p1 50 (.bin .add z1 49)<|p1 51 (.sls 48 (some z1) (some 50))<|p1 52 (.bin .add 47 51)<|pm 53 7<|pm 54 8<|p1 55 (.bin .add z1 54)<|p1 56 (.sls 53 (some 55) none)<|pm 6 52<|pm 7 56 .done)))) .skip)) (sR (om 58 7<|oc 59 a3 [58]<|om 57 59<|oe 60 57 0<|oe 61 57 1<|om 9 60<|om 10 61 .done) (.seq (sR (om 62 10<|o1 63 (.un .not 62) .done) (.cond 63 (sR (oc 64 a2 []<|o0 (.st 2 2 64)<|o1 3 (.mv (kZ 10)) .done) .ret) .skip)) (sR (om 65 6<|oc 66 a4 [65,(.const (Ag [48]))]<|om 6 66 .done) (sR (om 67 6<|oc 68 a5 [67,(.const (Ag [48]))]<|om 11 68 .done) (.seq (sR (om 69 11<|ob 70 .eql 69 (.const (Ag [])) .done) (.cond 70 (sR (oc 71 a2 []<|o0 (.st 2 2 71)<|o1 3 (.mv z0) .done) .ret) .skip)) (.seq (sR (om 72 11<|o1 73 (.lens 72)<|ob 74 .gtr 73 (kZ 18) .done) (.cond 74 (sR (oc 75 a2 []<|o0 (.st 2 2 75)<|o1 3 (.mv (kZ 11)) .done) .ret) .skip)) (sR (o1 12 (.mv (.const (.int .u64 0))) .done) (.seq (sR (om 76 11<|o1 77 (.lens 76)<|o1 78 (.mv z0) .done) (.block 0 (.loop (sR (ob 79 .lss 78 77 .done) (.seq (.cond 79 .skip (.exit 0)) (.seq (.block 1 (sR (om 80 78<|om 13 80 .done) (rG (om 81 12<|ob 82 .mul 81 (.const (.int .u64 10))<|om 83 11<|om 84 13<|o1 85 (.sidx 83 84)<|ob 86 .sub 85 (.const (.int .u8 48))<|o1 87 (.cvi .u64 86)<|ob 88 .add 82 87<|om 12 88 .done)))) (rG (ob 89 .add 78 z1<|om 78 89 .done)))))))) (sR (om 90 4<|om 91 12<|om 92 9<|om 93 8<|ob 94 .sub 92 93<|om 95 6<|o1 96 (.lens 95)<|ob 97 .add 94 96<|om 98 11<|o1 99 (.lens 98)<|ob 100 .sub 97 99<|oc 101 a6 [90,(.const (.int .u64 0)),91,100]<|oe 102 101 0<|oe 103 101 1<|o0 (.st 2 2 102)<|om 3 103 .done) .ret)))))))))))))))))⟩
set_option maxHeartbeats 2000000 in
def VM{T:Ad→Prop}{P f f1 f2 f3 f4 f5 f6 f7}(hd:dec P f=some (SX f1 f2 f3 f4 f5 f6 f7))(h1:NZ P f1)(h2:N9 P f2)(h3:Lh P f3)(h4:Ux P f4)(h5:UB P f5)(h6:Un P f6)(h7:Pm T P f7):Hr T P f:=by
 intro d s0 ht hl;refine AO.of' hd (Aca Z) ?_;show gwp P _ _ _ _ _;(refine Aj<|BR (fun _ _=>Bt Z<|Ak Z ?_));rename_i b2 T2;have p1:=h1 (d:=d) (l:=s0) (c:=45);have hcA:=Rf s0;have end10:∀(ρ:Env),ρ 2=pZ b2→ρ 3=vZ 10→DX s0=(0,0,10)→Cb [.cell 2 (some 2),.tmp 3] (Ret fun v _ L'=>v=.tuple #[.agg [vZ (DX s0).1,vZ (DX s0).2.1].toArray,vZ (DX s0).2.2]∧L'=[]) ρ d [bx b2 T2 [vZ 0,vZ 0]]:=fun ρ e2 e3 e=>by
  rw[e];exact Ba [.agg [vZ 0,vZ 0].toArray,vZ 10] ⟨Bc 0 e2 Z Z,e3.symm,trivial⟩ (Acb _) ⟨Z,Z⟩
 refine AG Z p1 ?_;clear p1;refine Ao Z<|CJ (fun ρ d' L'=>AZ ρ [(0,Ag (if decide (s0.head?=some 45)=true then s0.tail else s0)),(2,pZ b2),(4,.bool (decide (s0.head?=some 45)))]∧d'=d∧L'=[bx b2 T2 [vZ 0,vZ 0]]) ?_ ?_
 ·clear hcA end10;by_cases k1:s0.head?=some 45
  ·rw[if_pos (by simpa using k1),decide_eq_true k1];have hr0:1≤s0.length:=by cases s0 with|nil=>cases k1|cons=>simp
   clear k1;refine Aj<|Ao Z<|Ci Z<|Ar<|Ak Z<|B6 (n:=1) Z Z Z hr0<|Ak Z<|Av ?_;exact⟨⟨congrArg Ag Agm,Z,Z,trivial⟩,Z,Z⟩
  ·rw[decide_eq_false k1,if_neg (by decide)];clear k1;(refine Aj<|Ao Z<|A7 Z<|Ay ?_);exact⟨⟨Z,Z,Z,trivial⟩,Z,Z⟩
 rintro ρ d2 L' ⟨hs,hdd,hL⟩;subst hdd;subst hL;have hxl:(if decide (s0.head?=some 45)=true then s0.tail else s0).length≤s0.length:=by
  split
  ·rw[Agp];omega
  ·exact Ack _
 generalize (if decide (s0.head?=some 45)=true then s0.tail else s0)=s at*;generalize decide (s0.head?=some 45)=neg at*;refine A4 _ hs ?_;clear hs;have hrs:=EJ s;refine Aj<|Ak Z<|AG Z (h2 (s:=s) (by omega))<|AL Z<|CJ (fun ρ d' L'=>¬(Bl s=0∨(1<Bl s∧s.head?=some 48))∧AZ ρ [(0,Ag s),(2,pZ b2),(4,.bool neg),(5,vZ (Bl s:Nat))]∧d'=d2∧L'=[bx b2 T2 [vZ 0,vZ 0]]) ?_ ?_
 ·by_cases k1:Bl s=0
  ·have hn:=Nw (show FL s0=none by rw[hcA,O7,if_pos (.inl k1)]);refine AD Z<|Ai Z Z<|Ac Z<|AA Z<|Aq Z Z<|AF Z<|AN Z<|AN Z<|AN Z<|AF Z<|Ah Z Z<|BK Z<|Aj<|AG Z h3<|Au 0 _ Z Z Z Z (Aca Z) Z Z<|AM Z<|end10 _ Z Z hn
  by_cases k2:1<Bl s
  ·obtain⟨c,r,hcr⟩:∃c r,s=c::r:=by cases s with|nil=>exact absurd Z k1|cons c r=>exact⟨c,r,Z⟩
   have hc0:s[0]?=some c:=by rw[hcr];rfl
   have hhd:s.head?=some c:=by rw[hcr];rfl
   have hcb:=UInt8.toNat_lt c;by_cases k3:c.toNat=48
   ·have hn:=Nw (show FL s0=none by rw[hcA,O7,if_pos (.inr ⟨k2,by rw[hhd,show c=48 from UInt8.toNat_inj.1 k3]⟩)]);clear hhd;refine AD Z<|Ai Z Z<|Ac Z<|Aw Z<|Aa Z<|Ab Z<|Aa Z<|AS Z Z<|Aa Z<|Ac Z<|AA Z<|Aa Z<|Ak Z<|Aa Z<|AU 0 Z Z Z hc0<|Aa Z<|Ai Z Z<|Aa Z<|Ah Z Z<|Af Z Z<|AE Z<|Aj<|AG Z h3<|Au 0 _ Z Z Z Z (Aca Z) Z Z<|AM Z<|end10 _ Z Z hn
   ·have hn:¬(Bl s=0∨(1<Bl s∧s.head?=some 48)):=by
     rintro(q|q)
     ·exact k1 q
     ·rw[hhd] at q;exact k3 (by rw[Option.some.inj q.2];rfl)
    clear hhd;refine AD Z<|Ai Z Z<|Ac Z<|Aw Z<|Aa Z<|Ab Z<|Aa Z<|AS Z Z<|Aa Z<|Ac Z<|AA Z<|Aa Z<|Ak Z<|Aa Z<|AU 0 Z Z Z hc0<|Aa Z<|Ai Z Z<|Aa Z<|Ah Z Z<|Af Z Z<|AJ Z ?_;exact⟨hn,⟨Z,Z,Z,Z,trivial⟩,Z,Z⟩
  ·(refine AD Z<|Ai Z Z<|Ac Z<|Aw Z<|Aa Z<|Ab Z<|Aa Z<|AS Z Z<|Aa Z<|Ac Z<|Aw Z<|Aq Z Z<|AF Z<|Aa Z<|Af Z Z<|Af Z Z<|Bh Z ?_);exact⟨by omega,⟨Z,Z,Z,Z,trivial⟩,Z,Z⟩
 rintro ρ d3 L' ⟨hok,hs,hdd,hL⟩;subst hdd;subst hL;rw[O7,if_neg hok] at hcA;refine A4 _ hs ?_;clear hs hok;refine Ax<|Bd<|Ak Z<|Ab Z<|It (n:=Bl s) Z Z Z hrs<|Ak Z<|Ab Z<|B6 (n:=Bl s) Z Z Z hrs<|Ak Z<|Ak Z<|AV<|AD Z<|Bw<|Ak Z ?_;have p2:=h1 (d:=d3) (l:=s.drop (Bl s)) (c:=46);have hlr:(s.drop (Bl s)).length=s.length - Bl s:=Acl;have hlw:(s.take (Bl s)).length=Bl s:=by rw[Aco];omega
 refine AG Z p2 ?_;clear p2;(apply Av);refine KL (fun ρ d' L'=>∃t,FL s0=some t∧t.neg=neg∧AZ ρ [(2,pZ b2),(4,.bool neg),(6,Ag (t.w++t.f)),(7,Ag t.x),(8,vZ (t.f.length:Nat))]∧d'=d3∧L'=[bx b2 T2 [vZ 0,vZ 0]]) ?_ ?_
 ·by_cases k1:(s.drop (Bl s)).head?=some 46
  ·rw[if_pos k1] at hcA;have hr0:1≤(s.drop (Bl s)).length:=by cases hh:s.drop (Bl s) with|nil=>rw[hh] at k1;cases k1|cons=>simp
   have htl:(s.drop (Bl s)).tail.length=(s.drop (Bl s)).length - 1:=Agp;rw[decide_eq_true k1];clear k1;generalize hr:s.drop (Bl s)=r at*;generalize Bl s=w at*;generalize hw:s.take w=tw at*;refine Ci Z<|Aj<|Ak Z<|B6 (n:=1) Z Z Z hr0 ?_;rw[Agm];refine AG Z (h2 (s:=r.tail) (by omega)) ?_;have hrt:=EJ r.tail;by_cases k2:Bl r.tail=0
   ·have hn:=Nw (show FL s0=none by rw[hcA,if_pos k2]);refine A1 Z<|Ab Z<|Ai Z Z<|AE Z<|Aj<|AG Z h3<|Au 0 _ Z Z Z Z (Aca Z) Z Z<|AM Z<|end10 _ Z Z hn
   rw[if_neg k2] at hcA;generalize hrd:Bl r.tail=k at*;have e1:(r.drop 1).take (1+k - 1)=r.tail.take k:=by rw[Agm,Afd]
   have e2:r.drop (1+k)=r.tail.drop k:=by rw[←Agm,Aeb]
   refine A1 Z<|Ab Z<|Ai Z Z<|AJ Z<|Bd<|Ak Z<|Ak Z<|Ab Z<|AY Z Z<|DG (n:=1) (m:=1+k) Z Z Z Z (by omega) (by omega) (by omega) ?_;rw[e1];refine BI (a:=tw) (b:=r.tail.take k) Z Z (by rw[Aco];omega)<|Ak Z<|Ab Z<|AY Z Z<|B6 (n:=1+k) Z Z (by omega) (by omega) ?_;rw[e2];(refine Ak Z<|Ak Z<|AV ?_);exact⟨_,hcA,Z,⟨Z,Z,Z,Z,congrArg (Value.int .i64) (by simp only[Aco];omega),trivial⟩,Z,Z⟩
  ·rw[if_neg k1] at hcA;rw[decide_eq_false k1];clear k1;(refine A7 Z<|Ay ?_);exact⟨_,hcA,Z,⟨Z,Z,congrArg Ag (Ado _).symm,Z,Z,trivial⟩,Z,Z⟩
 rintro ρ d4 L' ⟨t,hcut,htn,hs,hdd,hL⟩;subst hdd;subst hL;subst htn;obtain⟨hdig,hlen,_⟩:=JT hcut;have hwf:(t.w++t.f).length=t.w.length+t.f.length:=Acd;refine A4 _ hs ?_;clear hs hcA;refine Aj<|Ak Z<|AG Z (h4 (s:=t.x) (by omega)) ?_;cases hx:ED t.x with
 |none=>
  have hn:=Yx hcut hx
  rw[Jw,hx]
  (refine Bm Z<|Bx Z Z Z Z<|Ab Z<|Ao Z<|Ap<|Ac Z<|Bu Z<|BK Z<|Aj ?_)
  refine AG Z h3 ?_
  refine Au 0 _ Z Z Z Z (Aca Z) Z Z ?_
  (refine AM Z ?_)
  exact end10 _ Z Z hn
 |some x=>
 have hn:=XH hcut hx;have hcl:=Pj _ x.2 Z;have hsg: -1099511627776≤sgn x.1 (Gg x.2)∧sgn x.1 (Gg x.2)≤1099511627776:=by
  unfold sgn;split<;>omega
 rw[Jw,hx];simp only;generalize sgn x.1 (Gg x.2)=ee at*;generalize hall:t.w++t.f=all at*;clear end10 hx hcut hall hcl;refine Bm Z<|Bx Z Z Z Z<|Ab Z<|Ao Z<|Ap<|Ac Z<|Bu Z<|Bh Z<|Aj<|Ak Z<|AG Z (h5 (l:=all)) ?_;have hl1:=(G1 all).1;have hd1:∀c∈CU all,isD c=true:=fun c hc=>hdig c ((G1 _).2 c hc);generalize CU all=a at*;refine Ak Z<|Br<|Ak Z<|AG Z (h6 (l:=a) (by omega)) ?_;have hl2:=(Js a).1;have hlast:= @Wc a hd1
 generalize C6 a=b at*;by_cases k1:b=[]
 ·rw[if_pos k1] at hn;clear hlast;refine Ak Z<|Bw<|Ak Z<|CS Z Z<|AE Z<|Aj<|AG Z h3<|Au 0 _ Z Z Z Z (Aca Z) Z Z<|AM Z ?_;rw[hn];exact Ba [.agg [vZ 0,vZ 0].toArray,vZ 0] ⟨Bc 0 Z Z Z,Z,trivial⟩ (Acb _) ⟨Z,Z⟩
 rw[if_neg k1] at hn;obtain⟨h10,hdb⟩:=hlast k1;clear hlast;by_cases k2:18<b.length
 ·rw[if_pos k2] at hn;refine Ak Z<|Bw<|Ak Z<|CS Z Z<|AJ Z<|Ap<|Ak Z<|AX Z<|AS Z Z<|AE Z<|Aj<|AG Z h3<|Au 0 _ Z Z Z Z (Aca Z) Z Z<|AM Z ?_;rw[hn];exact Ba [.agg [vZ 0,vZ 0].toArray,vZ 11] ⟨Bc 0 Z Z Z,Z,trivial⟩ (Acb _) ⟨Z,Z⟩
 rw[if_neg k2] at hn;have pow18:∀n,n≤18→(10:Nat)^ n≤1000000000000000000:=fun n h=>(Agd (by omega) h:(10:Nat)^ n≤10 ^ 18)
 refine Ak Z<|Bw<|Ak Z<|CS Z Z<|AJ Z<|Ap<|Ak Z<|AX Z<|AS Z Z<|AJ Z<|AD Z<|Bw<|Ak Z<|AX Z<|AL Z<|Am<|FJ 0 (fun ρ d5 L'=>AZ ρ [(2,pZ b2),(4,.bool t.neg),(6,Ag a),(8,vZ (t.f.length:Nat)),(9,vZ ee),(11,Ag b),(12,.int .u64 (Gr b:Nat))]∧d5=d4∧L'=[bx b2 T2 [vZ 0,vZ 0]]) ?_ ?_
 ·refine BP (α:=Nat) (fun k=>[(2,pZ b2),(4,.bool t.neg),(6,Ag a),(8,vZ (t.f.length:Nat)),(9,vZ ee),(11,Ag b),(77,vZ (b.length:Nat)),(12,.int .u64 (Gr (b.take k):Nat)),(78,vZ (k:Int))]) (fun k d5 L'=>d5=d4∧k≤b.length∧L'=[bx b2 T2 [vZ 0,vZ 0]]) (fun k=>b.length - k) 0 ⟨Z,Z,Z,Z,Z,Z,Z,Z,Z,trivial⟩ ⟨Z,Acu _,Z⟩ ?_;rintro k ρ d5 L' ⟨hdd,hk,hL⟩;subst hdd;subst hL;by_cases hk2:k<b.length
  ·have hcx:b[k]?=some b[k]:=Acf hk2;have hdg:=hdb _ (Acq hk2);have hsn:=Jh (b.take k) b[k];rw[←Acx hk2] at hsn;have hvl:=Mu _ (b.take (k+1)) Z (fun c hc=>hdb c (Adg hc));have hvl2:=pow18 (b.take (k+1)).length (by rw[Aco];omega);have hd9:=Io hdg;have hd48:48≤b[k].toNat:=by simp[isD] at hdg;exact hdg.1
   have hub:=UInt8.toNat_lt b[k];generalize b[k]=u at*;have hdu:((dg u:Nat):Int)=(u.toNat:Int) - 48:=by unfold dg;omega
   clear hdg;refine Aj<|As Z Z<|Cr<|Bn Z<|Ay<|Ax<|Am<|AD Z<|AL Z<|Ar<|Ab Z<|AaP Z Z (by omega) (by omega)<|Ak Z<|Ab Z<|AU k Z Z Z hcx<|JQ Z Z (by omega) (by omega)<|WU Z (by omega) (by omega)<|Aaj Z Z (by omega) (by omega)<|AL Z<|Ar<|AY Z Z<|AL Z ?_;exact⟨k+1,by omega,⟨Z,Z,Z,Z,Z,Z,Z,congrArg (Value.int .u64) (by rw[hsn];omega),Z,trivial⟩,Z,by omega,Z⟩
  ·(refine Aj<|As Z Z<|Cr<|AH Z<|A6 ?_);rw[Adm (by omega)];exact Er 0 ⟨⟨Z,Z,Z,Z,Z,Z,Z,trivial⟩,Z,Z⟩
 rintro ρ d5 L' ⟨hs,hdd,hL⟩;subst hdd;subst hL;show gwp P _ _ _ _ _;refine A4 _ hs ?_;clear hs;have hvl:=Mu _ b Z hdb;have hvl2:=pow18 b.length (by omega);have p7:=h7 (d:=d5) (neg:=t.neg) (m:=Gr b) (e:=ee - (t.f.length:Int)+(a.length:Int) - (b.length:Int)) ht (by omega) h10 ⟨by omega,by omega⟩;rw[hn];clear hn;generalize MK t.neg (Gr b) (ee - (t.f.length:Int)+(a.length:Int) - (b.length:Int))=r3 at*;obtain⟨r1,r2,r3⟩:=r3;refine Aj<|Ac Z<|Ab Z<|Ab Z<|Ab Z<|DQ Z Z<|Ak Z<|AX Z<|AY Z Z<|Ak Z<|AX Z<|DQ Z Z<|AG Z p7<|Bx Z Z Z Z<|Au 0 [vZ r1,vZ r2] Z Z Z Z (Aca Z) Z Z<|AM Z<|Ba [.agg [vZ r1,vZ r2].toArray,vZ r3] ⟨Bc 0 Z Z Z,Z,trivial⟩ (Acb _) ⟨Z,Z⟩
end Go.Gk.Jsn
end
section
namespace Go.Gk.Jsn
open Go Go.Gk Go.Gk.Num
def CQ(d:Nat):UInt8:=UInt8.ofNat (48+d)
def Ud:∀u,u≠0→Lib.decDigits u=(B1 u).map CQ:=by
 intro u;induction u using Nat.strongRecOn with
 |_ u ih=>
  intro hu
  rw[Lib.decDigits,Gq hu,Afs]
  by_cases h:u<10
  ·rw[dif_pos h,show u / 10=0 by omega,Fm,show u % 10=u by omega];rfl
  ·rw[dif_neg h,ih (u / 10) (by omega) (by omega)];rfl
def Dm(n:Nat):List UInt8:=Adi n 48
def DE(m:Int):List UInt8:=if m<0 then [45] else []
def prP(m e:Int):List UInt8:=
 let d:=Lib.decDigits m.natAbs
 if 0≤e∧(d.length:Int)+e≤21 then DE m++d++Dm e.toNat else
 if e<0∧ -20≤e then
  let d2:=if (d.length:Int)≤ -e then Dm (1 - e - d.length).toNat++d else d
  let at':=((d2.length:Int)+e).toNat
  DE m++d2.take at'++[46]++d2.drop at'
 else DE m++d++[101]++Lib.itoa e
def prR(m e:Int):List UInt8:=
 let D:=(B1 m.natAbs).map CQ
 if D=[] then [48] else
 if 0≤e∧(D.length:Int)+e≤21 then DE m++D++Dm e.toNat else
 if e<0∧ -20≤e then
  if -e<(D.length:Int) then DE m++D.take (D.length+e).toNat++[46]++D.drop (D.length+e).toNat
  else DE m++[48,46]++Dm (-e - D.length).toNat++D
 else DE m++D++[101]++DE e++(B1 e.natAbs).map CQ
def Yd{m e:Int}(h0:m=0→e=0)(h1:m.natAbs<10 ^ 18):prP m e=prR m e:=by
 by_cases hm:m=0
 ·obtain rfl:=hm;obtain rfl:=h0 Z;rw[prR,if_pos (by rw[show(0:Int).natAbs=0 from Z,Fm];rfl),prP];rw[show Lib.decDigits (0:Int).natAbs=[48] by rw[Lib.decDigits];rfl];rfl
 ·have hn:m.natAbs≠0:=by omega
  obtain⟨d0,l0,hd0,_⟩:=PI hn;have hl:=(F4 m.natAbs 18).2 h1;have hl':((B1 m.natAbs).map CQ).length≤18:=by rw[Adq];exact hl
  clear hl;have hne:(B1 m.natAbs).map CQ≠[]:=by rw[hd0];exact fun q=>by cases q
  unfold prP prR;rw[Ud _ hn];generalize (B1 m.natAbs).map CQ=D at*;have hpos:0<D.length:=Adk.2 hne;simp only[if_neg hne];by_cases c1:0≤e∧(D.length:Int)+e≤21
  ·rw[if_pos c1,if_pos c1]
  ·rw[if_neg c1,if_neg c1];by_cases c2:e<0∧ -20≤e
   ·rw[if_pos c2,if_pos c2];by_cases c3:(D.length:Int)≤ -e
    ·rw[if_neg (by omega:¬ -e<(D.length:Int))];simp only[if_pos c3];obtain⟨k,hk⟩:∃k:Nat, -e - (D.length:Int)=k:=⟨(-e - D.length).toNat,by omega⟩
     have e1:(1 - e - (D.length:Int)).toNat=k+1:=by omega
     have e2:(((Dm (1 - e - (D.length:Int)).toNat++D).length:Int)+e).toNat=1:=by
      rw[Acd,Dm,Aef];omega
     rw[e2,e1,show(-e - (D.length:Int)).toNat=k by omega];rw[show Dm (k+1)=48::Dm k from Z];simp
    ·rw[if_pos (by omega: -e<(D.length:Int))];simp only[if_neg c3]
   ·rw[if_neg c2,if_neg c2];by_cases he:e=0
    ·exact absurd ⟨by omega,by omega⟩ c1
    ·unfold Lib.itoa DE;by_cases hs:e<0
     ·rw[if_pos hs,if_pos hs,Ud _ (by omega)];simp
     ·rw[if_neg hs,if_neg hs,Ud _ (by omega),show e.toNat=e.natAbs by omega];simp
end Go.Gk.Jsn
end
section
namespace Go.Gk.Val
open Go Go.Gk Go.Gk.Utf
attribute [local irreducible] gwp gws
section
section
variable {P:Program}{pan:List PanicEntry→A0}{Qn:Env→A0}{Ls L:List Ad}{ρ:Env}{d:Ad}{s:GS}{t:Nat}{tk:Bool}
def Sm{len n b:Nat}{x y}(hl:0<len)(hn:n≤len)(ex:ev ρ x=pZ b)(ey:ev ρ y=vZ (n:Nat))(h:gws P pan Qn s Ls (upd ρ t (.slice (some ⟨b,0,none⟩) n len)) d L):
  gws P pan Qn (.op tk ⟨some t,none,.sla len 1 x none (some y) none⟩ s) Ls ρ d L:=by
 refine w_q Z ⟨b,0,0,n,len,ex,?_,?_⟩ h
 ·have hb:bnd (vZ (n:Nat)) len=some n:=by
   rw[bnd,if_pos (by omega),Adc]
  simp only[Aeh,Agw,ey]
  simp[FU,IN,Ic,IU,hb]
 ·rw[if_neg (by omega)];simp
end
def J1(T:Ad→Prop)(P:Program)(f:FuncId):Prop:=∀{d}{u:Nat},T d→u<18446744073709551616→AO P f [.int .u64 u,vZ 10] d (Ag (Lib.decDigits u))
def Hi(a0 a1 a2 a3:Nat):Bo:=⟨32,[(.tmp 4)],(sR (o1 4 (.mv (.const (Ag []))) .done) (.seq (sR (om 9 1<|ob 10 .eql 9 (kZ 10) .done) (.cond 10 (.seq (sR (om 11 0<|ob 12 .lss 11 (.const (.int .u64 100)) .done) (.cond 12 (sR (om 13 0<|o1 14 (.cvi .i64 13)<|oc 15 a0 [14]<|om 4 15 .done) .ret) .skip)) (sR (o1 5 (.alo (.agg #[(.int .u8 0),(.int .u8 0),(.int .u8 0),(.int .u8 0),(.int .u8 0),(.int .u8 0),(.int .u8 0),(.int .u8 0),(.int .u8 0),(.int .u8 0),(.int .u8 0),(.int .u8 0),(.int .u8 0),(.int .u8 0),(.int .u8 0),(.int .u8 0),(.int .u8 0),(.int .u8 0),(.int .u8 0),(.int .u8 0),(.int .u8 0),(.int .u8 0),(.int .u8 0),(.int .u8 0)])) .done) (sR (om 16 0<|oc 17 a1 [16]<|om 6 17 .done) (sR (om 18 6<|o1 19 (.sla 24 1 5 none (some 18) none)<|om 20 0<|oc 21 a2 [19,20] .done) (sR (om 22 6<|o1 23 (.sla 24 1 5 none (some 22) none)<|o1 24 (.b2s 23)<|om 4 24 .done) .ret))))) .skip)) (sR (om 26 0<|om 27 1<|oc 28 a3 [nS,26,27,(.const (.bool false)),(.const (.bool false))]<|om 25 28<|oe 29 25 0<|oe 30 25 1<|om 7 29<|om 8 30 .done) (sR (om 31 8<|om 4 31 .done) .ret))))⟩
def YR{T:Ad→Prop}{P f f1 f2 f3 f4}(hd:dec P f=some (Hi f1 f2 f3 f4))(h1:MS P f1)(h2:NU T P f2)(h3:US P f3):J1 T P f:=by
 intro d u ht hu;refine AO.of' hd (Aca Z) ?_;show gwp P _ _ _ _ _;by_cases hs:(u:Int)<100
 ·refine Aj<|Ak Z<|Bw<|Ab Z<|Ai Z Z<|AE Z<|Ap<|Ab Z<|As Z Z<|AE Z<|AD Z<|Gu Z (by omega) (by omega)<|AG Z (h1 (by omega))<|Ak Z<|Bz<|CX Z
 have hnd:=Lib.nDigits_le20 u hu;have hdl:=Lib.decDigits_length u;(refine Aj<|Ak Z<|Bw<|Ab Z<|Ai Z Z<|AE Z<|Ap<|Ab Z<|As Z Z<|AJ Z<|Aj<|BV (fun _ _=>Br<|Ab Z ?_));rename_i b5 T5;refine AG Z (h2 ht (by omega) hu)<|Bt Z<|Ab Z<|Sm (n:=Lib.nDigits u) (by omega) (by omega) Z Z ?_;(apply Ab;rfl);have hz:(Adi 24 (Value.int .u8 0)).take (Lib.nDigits u)=Adi (Lib.nDigits u) (.int .u8 0):=by rw[List.take_replicate,Nat.min_eq_left (by omega)]
 refine DT d [bx b5 T5 (Adi 24 (Value.int .u8 0))] (Vs.refl _ _)<|Cg (A:=[bx b5 T5 (Adi 24 (Value.int .u8 0))]) (B:=[]) Z Z (h3 (d:=d) (b:=b5) (T:=T5) (c:=24) hu hz) (fun r d6 L6 _ ⟨hdd,l',hL,hll,hlt⟩=>?_);subst hdd;subst hL;refine Br<|Ab Z<|Sm (n:=Lib.nDigits u) (by omega) (by omega) Z Z<|TU (b:=b5) (o:=0) (l:=Lib.decDigits u) Z hdl.symm (SAd.some _ b5 0) (fun i w hw=>?_) ?_
 ·refine An 0 Z ?_;have:=congrArg (·[i]?) hlt;have hi:i<Lib.nDigits u:=by rw[←hdl];exact(Acj.1 hw).1
  simp only[Aej,hw,Aeh] at this;rw[Ada hi] at this;rw[Adw];exact this
 refine Ak Z<|Bz<|CX Z
def KC(a0:Nat):Bo:=⟨8,[(.tmp 4)],(sR (o1 4 (.mv (.const (Ag []))) .done) (sR (om 5 0<|om 6 1<|oc 7 a0 [5,6]<|om 4 7 .done) .ret))⟩
def XJ{T:Ad→Prop}{P f f1}(hd:dec P f=some (KC f1))(h1:J1 T P f1):J1 T P f:=by
 intro d u ht hu;refine AO.of' hd (Aca Z) ?_;show gwp P _ _ _ _ _;refine Aj<|Ak Z<|Br<|Ab Z<|Ab Z<|AG Z (h1 ht hu)<|Ak Z<|Bz<|CX Z
end
end Go.Gk.Val
end
section
namespace Go.Gk.Val
open Go Go.Gk Go.Gk.Utf Go.Proofs Go.RowKit Go.Shelf
attribute [local irreducible] gwp gws
def Ss(P:Program)(f:FuncId):Prop:=∀{d}{b:Nat}{T}{u c:Nat},u<1000→
 Be P f [.slice (some ⟨b,1,none⟩) (Lib.nDigits u) c,.int .u64 u] d [bx b T (Adi 24 (.int .u8 0))] (Ret fun r d' L'=>d'=d∧∃l',L'=[bx b T l']∧l'.length=24∧(l'.drop 1).take (Lib.nDigits u)=(Lib.decDigits u).map Bb)
def Zh{P}{ρ:Ren}(L:Lays.n285 P ρ)(hc:Du P (ρ.f 285)):Ss P (ρ.f 285):=by
 intro d b T u c hu';have hu:u<18446744073709551616:=by omega
 generalize hn:Lib.nDigits u=n at*;have h20:n≤20:=by have:=Lib.nDigits_le20 u hu;omega
 have hlt:=Lib.lt_pow_nDigits u;obtain⟨zs,hzs⟩:∃zs,zs=Adi 24 (Value.int .u8 0):=⟨_,Z⟩
 have hzl:zs.length=24:=by rw[hzs];exact Aef ..
 have hzi:∀j,j<24→zs[j]?=some (.int .u8 0):=fun j hj=>by rw[hzs,List.getElem?_replicate,if_pos hj]
 rw[←hzs];clear hzs;refine⟨hc,fun F W hOk=>?_⟩
 have y:Ok (bx b T zs::d::F) W:=hOk.perm (Adz _ _ _);have hb:=y.head b _ (CG _ _);have hH:Sort.Holds (fun(b:UInt8)=>Value.int .u8 (b.toNat:Int)) W b 1 (Array.replicate n (0:UInt8)):=fun j hj=>by
  have hj':j<n:=by simpa using hj
  refine⟨?_,by simp[World.frozen?,hb]⟩
  have:=hzi (1+j) (by omega);simp only[World.cell?,hb];rw[getElem!_pos _ j hj];simpa using this
 have hk:=Any.internal_strconv_formatBase10 L b 1 c u (Array.replicate n (0:UInt8)) W hH (by rw[Array.size_replicate,←hn];exact hlt) hu (by rw[Array.size_replicate];omega);rw[Array.size_replicate] at hk;refine hk.mono ?_;rintro e W' ⟨rfl,m,v',dk,rfl,hinv⟩;have hdk:dk.size=n:=hinv.size;refine⟨d,[bx b T (Sort.putCells (fun(b:UInt8)=>Value.int .u8 (b.toNat:Int)) 1 dk zs.toArray).toList],?_,Le.refl d,⟨Z,Z,Z,?_⟩,Z,_,Z,by simp[Sort.putCells,hzl],?_⟩
 ·have z:=(Qz (f:=Sort.putCells (fun(b:UInt8)=>Value.int .u8 (b.toNat:Int)) 1 dk) y)
  exact(z.perm (Adz _ _ _)).same Z
 ·show W.heap.size≤(W.heap.modify b _).size;simp
 ·have hdl:=Lib.decDigits_length u;apply List.ext_getElem?;intro j;by_cases hj:j<n
  ·have hjd:j<(Lib.decDigits u).length:=by rw[hdl,hn];exact hj
   have hrow:=Lib.row_is_numeral (u:=u) (v':=v') (dk:=dk) (by rw[hn];exact hinv) j hjd;have hjl:1+j<zs.length:=by omega
   rw[Ada hj,List.getElem?_drop,Aej,Acf hjd,hrow];simp[Sort.putCells,hjl,hdk,hj,Bb]
  ·rw[Acz (by rw[Aco];omega),Acz (by rw[Adq,hdl];omega)]
section
variable {P:Program}{pan:List PanicEntry→A0}{Qn:Env→A0}{Ls L:List Ad}{ρ:Env}{d:Ad}{s:GS}{t:Nat}{tk:Bool}
def Aae{len n b:Nat}{x y z}(hn:1+n≤len)(hn0:1<len)(ex:ev ρ x=pZ b)(ey:ev ρ y=vZ 1)(ez:ev ρ z=vZ (1+n:Int))(h:gws P pan Qn s Ls (upd ρ t (.slice (some ⟨b,1,none⟩) n (len - 1))) d L):
  gws P pan Qn (.op tk ⟨some t,none,.sla len 1 x (some y) (some z) none⟩ s) Ls ρ d L:=by
 refine w_q Z ⟨b,0,1,1+n,len,ex,?_,?_⟩ h
 ·have hb:bnd (vZ (1+n:Int)) len=some (1+n):=by
   rw[bnd,if_pos (by omega)];congr 1
  have hb1:bnd (vZ 1) (1+n)=some 1:=by rw[bnd,if_pos (by omega)];rfl
  simp only[Aeh,Agw,ey,ez]
  simp[FU,IN,Ic,IU,hb,hb1]
 ·rw[if_neg (by omega)];simp
end
def JL(T:Ad→Prop)(P:Program)(f:FuncId):Prop:=∀{d}{e:Int},T d→ -1000<e→e<100→AO P f [vZ e] d (Ag (Lib.itoa e))
def QZ(T:Ad→Prop)(P:Program)(f:FuncId):Prop:=∀{d}{e:Int},T d→ -1000<e→e<100→AO P f [vZ e,vZ 10] d (Ag (Lib.itoa e))
def Ho(a0 a1 a2 a3:Nat):Bo:=⟨54,[(.tmp 4)],(sR (o1 4 (.mv (.const (Ag []))) .done) (.seq (sR (om 10 1<|ob 11 .eql 10 (kZ 10) .done) (.cond 11 (.seq (sR (om 12 0<|ob 13 .leq z0 12<|om 14 13<|gT 15 14 0<|oT 16 14 (.bin .lss 15 (kZ 100))<|gP 17 14 16 .done) (.cond 17 (sR (om 18 0<|oc 19 a0 [18]<|om 4 19 .done) .ret) .skip)) (sR (o1 5 (.alo (.agg #[(.int .u8 0),(.int .u8 0),(.int .u8 0),(.int .u8 0),(.int .u8 0),(.int .u8 0),(.int .u8 0),(.int .u8 0),(.int .u8 0),(.int .u8 0),(.int .u8 0),(.int .u8 0),(.int .u8 0),(.int .u8 0),(.int .u8 0),(.int .u8 0),(.int .u8 0),(.int .u8 0),(.int .u8 0),(.int .u8 0),(.int .u8 0),(.int .u8 0),(.int .u8 0),(.int .u8 0)])) .done) (sR (om 20 0<|o1 21 (.cvi .u64 20)<|om 6 21 .done) (.seq (sR (om 22 0<|ob 23 .lss 22 z0 .done) (.cond 23 (rG (om 24 6<|o1 25 (.un .neg 24)<|om 6 25 .done)) .skip)) (sR (om 26 6<|oc 27 a1 [26]<|om 7 27 .done) (sR (om 28 7<|ob 29 .add z1 28<|o1 30 (.sla 24 1 5 (some z1) (some 29) none)<|om 31 6<|oc 32 a2 [30,31] .done) (.seq (sR (om 33 0<|ob 34 .lss 33 z0 .done) (.cond 34 (sR (o1 35 (.idxa 24 1 5 z0)<|o0 (.st 1 35 (.const (.int .u8 45))) .done) (sR (om 36 7<|ob 37 .add z1 36<|o1 38 (.sla 24 1 5 none (some 37) none)<|o1 39 (.b2s 38)<|om 4 39 .done) .ret)) .skip)) (sR (om 40 7<|ob 41 .add z1 40<|o1 42 (.sla 24 1 5 (some z1) (some 41) none)<|o1 43 (.b2s 42)<|om 4 43 .done) .ret)))))))) .skip)) (sR (om 45 0<|o1 46 (.cvi .u64 45)<|om 47 1<|om 48 0<|ob 49 .lss 48 z0<|oc 50 a3 [nS,46,47,49,(.const (.bool false))]<|om 44 50<|oe 51 44 0<|oe 52 44 1<|om 8 51<|om 9 52 .done) (sR (om 53 9<|om 4 53 .done) .ret))))⟩
def Y2{T:Ad→Prop}{P f f1 f2 f3 f4}(hd:dec P f=some (Ho f1 f2 f3 f4))(h1:MS P f1)(h2:NU T P f2)(h3:Ss P f3):QZ T P f:=by
 intro d e ht he1 he2;refine AO.of' hd (Aca Z) ?_;show gwp P _ _ _ _ _;by_cases hs:0≤e
 ·obtain⟨n,rfl⟩:∃n:Nat,e=n:=⟨e.toNat,by omega⟩
  have ei:Lib.itoa (n:Int)=Lib.decDigits n:=by rw[Lib.itoa,if_neg (by omega),Adc]
  rw[ei];refine Aj<|Ak Z<|Bw<|Ab Z<|Ai Z Z<|AE Z<|Ap<|Ab Z<|BN Z Z<|Ac Z<|AA Z<|Aa Z<|Ab Z<|Aa Z<|As Z Z<|Ah Z Z<|AE Z<|AD Z<|AG Z (h1 (by omega))<|Ak Z<|Bz<|CX Z
 obtain⟨u,hu,hu1⟩:∃u:Nat,e= -(u:Int)∧1≤u:=⟨e.natAbs,by omega,by omega⟩
 have ei:Lib.itoa e=45::Lib.decDigits u:=by rw[Lib.itoa,if_pos (by omega),show e.natAbs=u by omega]
 rw[ei];have hnd:=Lib.nDigits_le20 u (by omega);have hdl:=Lib.decDigits_length u;have hneg:(0 - e % 18446744073709551616) % 18446744073709551616=(u:Int):=by omega
 (refine Aj<|Ak Z<|Bw<|Ab Z<|Ai Z Z<|AE Z<|Ap<|Ab Z<|BN Z Z<|Ac Z<|Aw Z<|Aq Z Z<|Af Z Z<|Bh Z<|Aj<|BR (fun _ _=>Br<|Ab Z<|NX Z<|A1 Z<|Ab Z<|As Z Z<|AE Z<|Ar<|Ab Z<|VN Z<|Bt Z<|Ab Z ?_));rename_i b5 T5;rw[hneg];refine AG Z (h2 (u:=u) ht (by omega) (by omega))<|Bt Z<|Ab Z<|AY Z Z<|Aae (n:=Lib.nDigits u) (by omega) (by omega) Z Z Z ?_;(apply Ab;rfl);refine Cg (A:=[bx b5 T5 (Adi 24 (Value.int .u8 0))]) (B:=[]) Z Z (h3 (d:=d) (b:=b5) (T:=T5) (u:=u) (c:=23) (by omega)) (fun r d6 L6 _ ⟨hdd,l',hL,hll,hlt⟩=>?_);subst hdd;subst hL;rw[Ado];refine Bw<|Ab Z<|As Z Z<|AE Z<|Aj<|Dd 0 Z Z Z (by omega) ?_;skip;refine Au 0 (patch l' 0 [.int .u8 45]) Z Z Z Z (by show 0+0*1+1≤_;omega) Z Z<|Br<|Ab Z<|AY Z Z<|Sm (n:=1+Lib.nDigits u) (by omega) (by omega) Z Z<|TU (b:=b5) (o:=0) (l:=45::Lib.decDigits u) Z (by rw[Acg,hdl];omega) (SAd.some _ b5 0) (fun i w hw=>?_) ?_
 ·refine An 0 Z ?_;have e1:patch l' 0 [.int .u8 45]=Value.int .u8 45::l'.drop 1:=by simp[patch]
  rw[Adw,e1];cases i with
  |zero=>cases hw;rfl
  |succ i=>
   rw[List.getElem?_cons_succ] at hw⊢
   have:=congrArg (·[i]?) hlt
   have hi:i<Lib.nDigits u:=by rw[←hdl];exact(Acj.1 hw).1
   simp only[Aej,hw,Aeh] at this
   rw[Ada hi] at this
   exact this
 refine Ak Z<|Bz<|CX Z
def Jc(a0:Nat):Bo:=⟨5,[(.tmp 2)],(sR (o1 2 (.mv (.const (Ag []))) .done) (sR (om 3 0<|oc 4 a0 [3,(kZ 10)]<|om 2 4 .done) .ret))⟩
def Xs{T:Ad→Prop}{P f f1}(hd:dec P f=some (Jc f1))(h1:QZ T P f1):JL T P f:=by
 intro d e ht he1 he2;refine AO.of' hd (Aca Z) ?_;show gwp P _ _ _ _ _;refine Aj<|Ak Z<|Br<|Ab Z<|AG Z (h1 ht he1 he2)<|Ak Z<|Bz<|CX Z
def O8(a0:Nat):Bo:=⟨5,[(.tmp 2)],(sR (o1 2 (.mv (.const (Ag []))) .done) (sR (om 3 0<|oc 4 a0 [3]<|om 2 4 .done) .ret))⟩
def YV{T:Ad→Prop}{P f f1}(hd:dec P f=some (O8 f1))(h1:JL T P f1):JL T P f:=by
 intro d e ht he1 he2;refine AO.of' hd (Aca Z) ?_;show gwp P _ _ _ _ _;refine Aj<|Ak Z<|Br<|Ab Z<|AG Z (h1 ht he1 he2)<|Ak Z<|Bz<|CX Z
end Go.Gk.Val
namespace Go.Gk.Jsn
open Go Go.Gk Go.Gk.Val Go.Gk.Num
attribute [local irreducible] gwp gws
def MO(T:Ad→Prop)(P:Program)(f:FuncId):Prop:=∀{d}{m e:Int},T d→B4 m e=true→AO P f [.agg [vZ m,vZ e].toArray] d (.tuple #[Ag (prP m e),vZ 0])
def Jz{m e:Int}(h:B4 m e=true):m.natAbs<1000000000000000000∧ -64≤e∧e≤64∧(m=0→e=0):=by
 unfold B4 at h;split at h
 ·rename_i q;have:=of_decide_eq_true h;omega
 ·have:=of_decide_eq_true h;omega
def AaA(m e:Int):prP m e=if 0≤e∧((Lib.decDigits m.natAbs).length:Int)+e≤21 then DE m++Lib.decDigits m.natAbs++Dm e.toNat else if e<0∧ -20≤e then
  DE m++(if ((Lib.decDigits m.natAbs).length:Int)≤ -e then Dm (1 - e - (Lib.decDigits m.natAbs).length).toNat++Lib.decDigits m.natAbs else Lib.decDigits m.natAbs).take (((if ((Lib.decDigits m.natAbs).length:Int)≤ -e then Dm (1 - e - (Lib.decDigits m.natAbs).length).toNat++Lib.decDigits m.natAbs else Lib.decDigits m.natAbs).length:Int)+e).toNat++[46]++(if ((Lib.decDigits m.natAbs).length:Int)≤ -e then Dm (1 - e - (Lib.decDigits m.natAbs).length).toNat++Lib.decDigits m.natAbs else Lib.decDigits m.natAbs).drop (((if ((Lib.decDigits m.natAbs).length:Int)≤ -e then Dm (1 - e - (Lib.decDigits m.natAbs).length).toNat++Lib.decDigits m.natAbs else Lib.decDigits m.natAbs).length:Int)+e).toNat
 else DE m++Lib.decDigits m.natAbs++[101]++Lib.itoa e:=Z
def S5(a0 a1 a2 a3 a4:Nat):Bo:=⟨82,[(.tmp 2),(.tmp 3)],(sR (o1 1 (.box 0)<|o1 2 (.mv (.const (Ag [])))<|o1 3 (.mv z0) .done) (.seq (sR (o1 8 (.ld (some 2) 1)<|oc 9 a0 [8]<|o1 10 (.un .not 9) .done) (.cond 10 (sR (o1 2 (.mv (.const (Ag [])))<|o1 3 (.mv (kZ 10)) .done) .ret) .skip)) (sR (o1 11 (.ld (some 2) 1)<|oc 12 a1 [11]<|oc 13 a2 [12,(kZ 10)]<|om 4 13 .done) (sR (o1 5 (.mv (.const (Ag []))) .done) (.seq (sR (oj 14 0 1<|ol 15 14<|ob 16 .lss 15 z0 .done) (.cond 16 (rG (o1 5 (.mv (.const (Ag [45]))) .done)) .skip)) (.seq (sR (om 17 4<|o1 18 (.lens 17)<|om 6 18 .done) (.block 0 (sR (oj 20 1 1<|ol 21 20<|ob 22 .geq 21 z0<|om 23 22<|gT 24 23 6<|oT 25 23 (.fld 1 1)<|oT 26 23 (.ld none 25)<|oT 27 23 (.bin .add 24 26)<|oT 28 23 (.bin .leq 27 (kZ 21))<|gP 29 23 28<|om 19 29 .done) (.cond 19 (sR (om 30 5<|om 31 4<|ob 32 .add 30 31<|oj 33 1 1<|ol 34 33<|oc 35 a3 [(.const (Ag [48])),34]<|ob 36 .add 32 35<|om 2 36<|o1 3 (.mv z0) .done) .ret) (sR (oj 38 1 1<|ol 39 38<|ob 40 .lss 39 z0<|om 41 40<|oT 42 41 (.fld 1 1)<|oT 43 41 (.ld none 42)<|oT 44 41 (.bin .geq 43 (kZ (-20)))<|gP 45 41 44<|om 37 45 .done) (.cond 37 (.seq (sR (om 46 6<|oj 47 1 1<|ol 48 47<|o1 49 (.un .neg 48)<|ob 50 .leq 46 49 .done) (.cond 50 (rG (oj 51 1 1<|ol 52 51<|ob 53 .sub z1 52<|om 54 6<|ob 55 .sub 53 54<|oc 56 a3 [(.const (Ag [48])),55]<|om 57 4<|ob 58 .add 56 57<|om 4 58 .done)) .skip)) (sR (om 59 4<|o1 60 (.lens 59)<|oj 61 1 1<|ol 62 61<|ob 63 .add 60 62<|om 7 63 .done) (.seq (.reg true (pm 64 5<|pm 65 4<|pm 66 7<|p1 67 (.sls 65 none (some 66))<|p1 68 (.bin .add 64 67)<|p1 69 (.bin .add 68 (.const (Ag [46])))<|pm 70 4<|pm 71 7<|p1 72 (.sls 70 (some 71) none)<|p1 73 (.bin .add 69 72) (.bar (pm 2 73 (p1 3 (.mv z0) .done))))) .ret))) .skip)))))) (sR (om 74 5<|om 75 4<|ob 76 .add 74 75<|ob 77 .add 76 (.const (Ag [101]))<|oj 78 1 1<|ol 79 78<|oc 80 a4 [79]<|ob 81 .add 77 80<|om 2 81<|o1 3 (.mv z0) .done) .ret)))))))⟩
set_option maxHeartbeats 1000000 in
def Z6{T:Ad→Prop}{P f f1 f2 f3 f4 f5}(hd:dec P f=some (S5 f1 f2 f3 f4 f5))(h1:Jg T P f1)(h2:Ow P f2)(h3:J1 T P f3)(h4:Uq P f4)(h5:JL T P f5):MO T P f:=by
 intro d m e ht hr;obtain⟨hm,he1,he2,h0⟩:=Jz hr;have p1:=h1 (d:=d) (m:=m) (e:=e) ht ⟨by omega,by omega⟩ ⟨by omega,by omega⟩;rw[hr] at p1;refine AO.of' hd (Aca Z) ?_;show gwp P _ _ _ _ _;apply Ax;apply Ar;refine Bg (l:=[vZ m,vZ e]) Z (fun b1 T1=>?_);clear hr;refine Ak Z<|A1 Z<|AP 0 Z Z Z<|AG Z p1<|Bu Z<|Bh Z<|Aj<|AP 0 Z Z Z<|AG Z (h2 (m:=m) (e:=e) ⟨by omega,by omega⟩)<|AG Z (h3 (u:=m.natAbs) ht (by omega)) ?_;have hdl:=Lib.decDigits_length m.natAbs;have hnd:=Lib.nDigits_le20 m.natAbs (by omega);rw[AaA];generalize Lib.decDigits m.natAbs=D at*;have hD:D.length≤20:=by omega
 have hD1:1≤D.length:=by
  rw[hdl,Lib.nDigits];split<;>omega
 clear hdl hnd;refine Ak Z<|Br<|Ak Z<|Bw<|AI Z Z Z<|As Z Z<|Av<|KL (fun ρ d' L'=>AZ ρ [(1,pZ b1),(4,Ag D),(5,Ag (DE m))]∧d'=d∧L'=[bx b1 T1 [vZ m,vZ e]]) ?_ ?_
 ·unfold DE;by_cases k1:m<0
  ·rw[if_pos k1];(refine Bn Z<|Ar<|Ak Z<|Av ?_);exact⟨⟨Z,Z,Z,trivial⟩,Z,Z⟩
  ·rw[if_neg k1];(refine AH Z<|Ay ?_);exact⟨⟨Z,Z,Z,trivial⟩,Z,Z⟩
 rintro ρ d2 L' ⟨hs,hdd,hL⟩;subst hdd;subst hL;have hsl:(DE m).length≤1:=by unfold DE;split<;>simp
 generalize DE m=sg at*;refine A4 _ hs ?_;clear hs p1;by_cases k1:0≤e
 ·obtain⟨n,rfl⟩:∃n:Nat,e=n:=⟨e.toNat,by omega⟩
  by_cases k2:(D.length:Int)+n≤21
  ·rw[if_pos ⟨k1,k2⟩];refine Ap<|Ak Z<|AX Z<|AL Z<|Am<|Aj<|AI Z Z Z<|A5 Z Z<|Ac Z<|AA Z<|Aa Z<|Ab Z<|Aa Z<|Ae Z<|Aa Z<|c_l Z Z Z<|Aa Z<|AY Z Z<|Aa Z<|BN Z Z<|Ah Z Z<|Ao Z<|Bn Z<|Aj<|Ak Z<|Ak Z<|BI (a:=sg) (b:=D) Z Z (by omega)<|AI Z Z Z<|AG Z (h4 (n:=n) (by omega))<|BI (a:=sg++D) (b:=Dm n) Z Z (by rw[Acd,Dm,Aef];omega)<|Ak Z<|AM Z<|Dy (by show _=Ag _;rw[Adc];rfl) Z
  ·rw[if_neg (fun q=>k2 q.2),if_neg (by omega)];refine Ap<|Ak Z<|AX Z<|AL Z<|Am<|Aj<|AI Z Z Z<|A5 Z Z<|Ac Z<|AA Z<|Aa Z<|Ab Z<|Aa Z<|Ae Z<|Aa Z<|c_l Z Z Z<|Aa Z<|AY Z Z<|Aa Z<|BN Z Z<|Ah Z Z<|Ao Z<|AH Z<|Aj<|AI Z Z Z<|As Z Z<|Ac Z<|Aw Z<|Aq Z Z<|AF Z<|Af Z Z<|Ao Z<|A7 Z<|Ay<|Aj<|Ak Z<|Ak Z<|BI (a:=sg) (b:=D) Z Z (by omega)<|BI (a:=sg++D) (b:=[101]) Z Z (by rw[Acd];simp;omega)<|AI Z Z Z<|AG Z (h5 (e:=n) ht (by omega) (by omega)) ?_;have hil:(Lib.itoa (n:Int)).length≤20:=by
    rw[Lib.itoa,if_neg (by omega),Lib.decDigits_length];exact Lib.nDigits_le20 _ (by omega)
   generalize Lib.itoa (n:Int)=it at*;refine BI (a:=sg++D++[101]) (b:=it) Z Z (by simp only[Acd,Adf];omega)<|Ak Z<|AM Z<|Dy Z Z
 rw[if_neg (fun q=>k1 q.1)];by_cases k2: -20≤e
 ·rw[if_pos ⟨by omega,k2⟩];refine Ap<|Ak Z<|AX Z<|AL Z<|Am<|Aj<|AI Z Z Z<|A5 Z Z<|Ac Z<|Aw Z<|Aq Z Z<|Aq Z Z<|AF Z<|Af Z Z<|Ao Z<|A7 Z<|Aj<|AI Z Z Z<|As Z Z<|Ac Z<|AA Z<|Aa Z<|Ae Z<|Aa Z<|c_l Z Z Z<|Aa Z<|A5 Z Z<|Ah Z Z<|Ao Z<|Bn Z<|Ap<|Ab Z<|AI Z Z Z<|Ik Z (by omega) (by omega)<|BN Z Z<|Av<|KL (fun ρ d' L'=>AZ ρ [(1,pZ b1),(4,Ag (if (D.length:Int)≤ -e then Dm (1 - e - D.length).toNat++D else D)),(5,Ag sg)]∧d'=d2∧L'=[bx b1 T1 [vZ m,vZ e]]) ?_ ?_
  ·by_cases k3:(D.length:Int)≤ -e
   ·rw[if_pos k3];obtain⟨n,hn⟩:∃n:Nat,1 - e - (D.length:Int)=n:=⟨(1 - e - (D.length:Int)).toNat,by omega⟩
    rw[hn,Adc];(refine Bn Z<|Ar<|AI Z Z Z<|DQ Z Z<|Ab Z<|DQ Z Z ?_);rw[hn];refine AG Z (h4 (n:=n) (by omega)) ?_;(apply Ak;rfl);refine BI (a:=Dm n) (b:=D) Z Z (by rw[Dm,Aef];omega)<|Ak Z<|Av ?_;exact⟨⟨Z,Z,Z,trivial⟩,Z,Z⟩
   ·rw[if_neg k3];(refine AH Z<|Ay ?_);exact⟨⟨Z,Z,Z,trivial⟩,Z,Z⟩
  rintro ρ d3 L' ⟨hs,hdd,hL⟩;subst hdd;subst hL;have hd2:0≤((if (D.length:Int)≤ -e then Dm (1 - e - D.length).toNat++D else D).length:Int)+e∧(if (D.length:Int)≤ -e then Dm (1 - e - D.length).toNat++D else D).length≤1000:=by
   split
   ·rw[Acd,Dm,Aef];omega
   ·omega
  generalize (if (D.length:Int)≤ -e then Dm (1 - e - D.length).toNat++D else D)=D2 at*;obtain⟨hx1,hx2⟩:=hd2;obtain⟨n,hn⟩:∃n:Nat,(D2.length:Int)+e=n:=⟨((D2.length:Int)+e).toNat,by omega⟩
  refine A4 _ hs ?_;clear hs;have htk:(D2.take n).length≤1000:=by rw[Aco];omega
  have hdr:(D2.drop n).length≤1000:=by rw[Acl];omega
  rw[hn,Adc];refine Aj<|Ak Z<|AX Z<|AI Z Z Z<|AY Z Z<|AL Z<|Ax<|Bd<|Ak Z<|Ak Z<|Ab Z<|It (n:=n) Z Z hn (by omega)<|BI (a:=sg) (b:=D2.take n) Z Z (by omega)<|BI (a:=sg++D2.take n) (b:=[46]) Z Z (by rw[Acd,Adf];omega)<|Ak Z<|Ab Z<|B6 (n:=n) Z Z hn (by omega)<|BI (a:=sg++D2.take n++[46]) (b:=D2.drop n) Z Z (by rw[Acd,Acd,Adf];omega)<|B0<|Ak Z<|AM Z<|Dy Z Z
 ·rw[if_neg (fun q=>k2 q.2)];refine Ap<|Ak Z<|AX Z<|AL Z<|Am<|Aj<|AI Z Z Z<|A5 Z Z<|Ac Z<|Aw Z<|Aq Z Z<|Aq Z Z<|AF Z<|Af Z Z<|Ao Z<|A7 Z<|Aj<|AI Z Z Z<|As Z Z<|Ac Z<|AA Z<|Aa Z<|Ae Z<|Aa Z<|c_l Z Z Z<|Aa Z<|A5 Z Z<|Ah Z Z<|Ao Z<|AH Z<|Ay<|Aj<|Ak Z<|Ak Z<|BI (a:=sg) (b:=D) Z Z (by omega)<|BI (a:=sg++D) (b:=[101]) Z Z (by rw[Acd];simp;omega)<|AI Z Z Z<|AG Z (h5 (e:=e) ht (by omega) (by omega)) ?_;have hil:(Lib.itoa e).length≤30:=by
   rw[Lib.itoa,if_pos (by omega),Acg,Lib.decDigits_length];have:=Lib.nDigits_le20 e.natAbs (by omega);omega
  generalize Lib.itoa e=it at*;refine BI (a:=sg++D++[101]) (b:=it) Z Z (by simp only[Acd,Adf];omega)<|Ak Z<|AM Z<|Dy Z Z
end Go.Gk.Jsn
end
