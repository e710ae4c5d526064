/-
  Our own texts, one behind the other: GkWE GkTrH GkWF GkWG GkTr9 GkTrL GkTrM GkTrN GkTY GkWH GkTrI GkTrJ GkTrO GkWI GkWJ GkX0 GkX1 GkX2 Gk46 GkX5 GkX6 GkX7 GkX8.
-/
import Derived.Test.YteekdjalpmjdhaaGreatPqF
set_option linter.defProp false
set_option linter.unusedVariables false
set_option linter.unusedSimpArgs false
open Nat renaming le_of_ble_eq_true→Aea,le_refl→Aef,zero_le→Aez,succ_ne_zero→Ago,not_lt_zero→Ahc,mul_le_mul_left→Ajl
open List.Sublist renaming refl→Aeb
open Bool renaming false_eq_true→Aeh,true_and→Ahr
open List renaming getElem?_eq_getElem→Aed,getD_eq_getElem?_getD→Aee,append_assoc→Aeg,perm_append_comm→Aei,mem_append→Aej,length_append→Aek,eq_nil_of_length_eq_zero→Ael,mem_cons_self→Aeo,length_cons→Aep,length_take→Aer,mem_cons_of_mem→Aev,mem_singleton→Aew,mem_cons→Aex,getElem_mem→Aey,range→Afb,mem_append_left→Afc,mem_append_right→Afe,length_set→Aff,nil_sublist→Afg,append_nil→Afh,nil_append→Afi,perm_middle→Afj,perm_iff_count→Aft,count_append→Agf,map_append→Agj,count_cons→Agk,mem_map_of_mem→Agl,length_nil→Agm,length_singleton→Ahe,exists_cons_of_ne_nil→Ahh,mem_range→Ahj,nodup_append→Aho,take_append_drop→Ahs,mem_map→Aid,eraseIdx_sublist→Aig,count_nil→Aik,filter_eq_nil_iff→Aiu,filter_append→Aiw,any_eq_true→Aji
open List.Perm renaming cons→Aem,swap→Afa,refl→Afr,append_left→Aie
open Option renaming getD_some→Ahf
section
namespace Go.Gk.Tre
open Go Go.Gk Go.Gk.Dev Go.Gk.Cch Go.Gk.Pgr Go.Gk.Chn Go.Gk.Node
variable{s:PD}{key:List UInt8}
section
section
variable {α:Type}
def Ke(l:List α){i:Nat}(h:i<l.length):∃a x b,l=a++[x]++b∧a.length=i:=⟨l.take i,l[i],l.drop (i+1),by simp,by simp;omega⟩
def EZ{a b:List α}{x d:α}:(a++[x]++b).getD a.length d=x:=by simp[List.getD]
def GJ{a b:List α}{x y:α}:(a++[x]++b).set a.length y=a++[y]++b:=by simp
def Jl{a b:List α}{x:α}:(a++[x]++b).eraseIdx a.length=a++b:=by simp[List.eraseIdx_append]
def Pd{a b:List α}{y:α}:Cb (a++b) a.length y=a++[y]++b:=by simp[Cb]
def ZZ{a b:List α}{x y:α}:Cb (a++[x]++b) (a.length+1) y=a++[x,y]++b:=by
 have e:a.length+1=(a++[x]).length:=by simp
 unfold Cb;rw[e,List.take_left,List.drop_left];simp
end
def UC{t}(hG:Pgr.Good t){h:Nat}{k c:Int}{a b}{ca cb:List Int}{md:MdD}{l1 m' l2}{P1 Pm P2:List Int}
  (hat:At t k ⟨false,a++b,[],ca++[c]++cb⟩) (ea:ca.length=a.length) (hne:a++b≠[]) (hl:KL (Tr t (h+1)) a ca l1 P1) (hr:KR (Tr t (h+1)) b cb l2 P2) (ho:Out t h 1 md m' Pm)
  (ba:∀k∈a,∀x∈m',¬Lt x.1 k) (bb:∀k∈b,∀x∈m',Lt x.1 k) (hnd:(k::(P1++Pm++P2)).Nodup):
  ((Ct t k ⟨false,a++b,[],ca++[c]++cb⟩ a.length md).2.2=0∧∃P',Mv t (Ct t k ⟨false,a++b,[],ca++[c]++cb⟩ a.length md).1 (k::(P1++Pm++P2)) P' 2∧
   Out (Ct t k ⟨false,a++b,[],ca++[c]++cb⟩ a.length md).1 (h+1) 1 (Ct t k ⟨false,a++b,[],ca++[c]++cb⟩ a.length md).2.1 (l1++m'++l2) P')∨
  ((Ct t k ⟨false,a++b,[],ca++[c]++cb⟩ a.length md).2.2=190∧t.free<2):=by
 have hs:=Ch.1 hat.sound
 obtain⟨hko,hlen,hrng⟩:=hs
 have hsz:=hat.size
 rw[size_inner] at hsz
 have hd:decide (h+1=0)=false:=decide_eq_false (Ago _)
 have hkv:∀p∈P1++Pm++P2,Bs t p:=fun p hp=>by
  rcases Aej.1 hp with hp|hp
  ·rcases Aej.1 hp with hp|hp
   ·rcases hl with ⟨_,_,_,e⟩|⟨_,_,_,e,_⟩
    ·rw[e] at hp;cases hp
    ·exact Kd.all (fun c l P q=>Tr.live q) e p hp
   ·exact ho.live p hp
  ·rcases hr with ⟨_,_,_,e⟩|⟨_,_,_,e,_⟩
   ·rw[e] at hp;cases hp
   ·exact Kd.all (fun c l P q=>Tr.live q) e p hp
 have hkr:∀p,Bs t p→0≤p∧p≤8191:=fun p hp=>D9 hG hp
 have e0:(ca++[c]++cb).getD a.length 0=c:=by rw[←ea];exact EZ
 have hz1:1≤(a++b).length:=F0.1 hne
 have hsz':A9 (⟨false,a++b,[],ca++[c]++cb⟩:AK)≤256:=hat.size
 unfold Ct
 simp only[e0]
 by_cases h1:c=md.page∧md.other<0
 ·rw[if_pos h1]
  obtain⟨h1,h2⟩:=h1
  subst h1
  refine .inl ⟨Z,k::(P1++Pm++P2),?_,.inl ⟨(by show(-1:Int)<0;decide),_,P1++Pm++P2,hat,Z,Z,hz1,?_⟩⟩
  ·have:=(Mv.refl hG).frame (R:=k::(P1++Pm++P2)) (fun p hp=>(Aex.1 hp).elim (fun e=>e▸hat.liv) (hkv p)) hnd (fun p _ q=>by cases q)
   exact this.mono (by omega)
  ·rw[hd]
   refine .mki Z ?_
   have:=Kd.Ka (km:=[]) (cm:=[md.page]) hl (Kd.one.2 (ho.tr h2 (Aef _))) hr (by simpa using hko) ba bb
   simpa using this
 ·rw[if_neg h1]
  by_cases h2:0≤md.other
  ·rw[if_pos h2]
   rcases ho with ⟨q,_⟩|⟨_,_,m1,m2,Q1,Q2,rfl,rfl,g1,g2,g3,g4,g5,g6⟩
   ·omega
   ·have e1:Cb (a++b) a.length md.key=a++[md.key]++b:=Pd
    have e2:Cb ((ca++[c]++cb).set a.length md.page) (a.length+1) md.other=ca++[md.page,md.other]++cb:=by rw[←ea,GJ,ZZ]
    simp only[e1,e2]
    obtain⟨x1,r1,f1⟩:=Ahh g1.ne
    obtain⟨x2,r2,f2⟩:=Ahh g2.ne
    obtain⟨ko1,ko2,ko3⟩:=KO.app.1 hko
    have ha':∀k∈a,Lt k md.key:=fun p hp=>NH (ba p hp x1 (by simp[f1])) (g3 x1 (by simp[f1]))
    have hb':∀k∈b,Lt md.key k:=fun p hp=>NH (g4 x2 (by simp[f2])) (bb p hp x2 (by simp[f2]))
    have hko':KO (a++[md.key]++b):=by
     rw[Aeg];refine KO.app.2 ⟨ko1,KO.cons.2 ⟨⟨g5,g6⟩,ko2,hb'⟩,fun x hx y hy=>?_⟩;rcases Aex.1 hy with rfl|hy
     ·exact ha' x hx
     ·exact ko3 x hx y hy
    obtain⟨n1,n1Q,n1a,_,n1e,_⟩:=id g1
    obtain⟨n2,n2Q,n2a,_,n2e,_⟩:=id g2
    have hso:Ba ⟨false,a++[md.key]++b,[],ca++[md.page,md.other]++cb⟩=true:=by
     refine Ch.2 ⟨hko',?_,fun p hp=>?_⟩
     ·simp only[Aek,Aep,Agm] at hlen⊢;omega
     ·rcases Aej.1 hp with hp|hp
      ·rcases Aej.1 hp with hp|hp
       ·exact hrng p (by simp[hp])
       ·rcases Aex.1 hp with rfl|hp
        ·exact hkr _ n1a.liv
        ·rw[Aew.1 hp];exact hkr _ n2a.liv
      ·exact hrng p (by simp[hp])
    refine GC hG (h:=h+1) (z:=1) ?_ hso ?_ hat.liv ?_ hnd
    ·rw[hd]
     exact .mki Z (Kd.Ka (km:=[md.key]) (cm:=[md.page,md.other]) hl (Kd.cons.2 ⟨m1,m2,Q1,Q2,Z,Z,g1,g3,g4,Kd.one.2 g2⟩) hr hko' ba bb)
    ·simp only[Aeh,if_false]
     rw[size_inner]
     simp only[Aek,Aep,Agm,DQ,C5] at hsz⊢
     omega
    ·simp;omega
  ·rw[if_neg h2]
   have e2:(ca++[c]++cb).set a.length md.page=ca++[md.page]++cb:=by rw[←ea,GJ]
   simp only[e2]
   have htr:=ho.tr (by omega) (Aef _)
   obtain⟨n1,n1Q,n1a,_,n1e,_⟩:=id htr
   have hso:Ba ⟨false,a++b,[],ca++[md.page]++cb⟩=true:=by
    refine Ch.2 ⟨hko,?_,fun p hp=>?_⟩
    ·simp only[Aek,Aep,Agm] at hlen⊢;omega
    ·rcases Aej.1 hp with hp|hp
     ·rcases Aej.1 hp with hp|hp
      ·exact hrng p (by simp[hp])
      ·rw[Aew.1 hp];exact hkr _ n1a.liv
     ·exact hrng p (by simp[hp])
   refine GC hG (h:=h+1) (z:=1) ?_ hso ?_ hat.liv hz1 hnd
   ·rw[hd]
    refine .mki Z ?_
    have:=Kd.Ka (km:=[]) (cm:=[md.page]) hl (Kd.one.2 htr) hr (by simpa using hko) ba bb
    simpa using this
   ·simp only[Aeh,if_false]
    rw[size_inner]
    simp only[Aek,Aep,Agm] at hsz⊢
    omega
def KL.live{h:Nat}{ks}{cs:List Int}{l}{Q:List Int}(hl:KL (Tr s h) ks cs l Q):∀p∈Q,Bs s p:=by
 rcases hl with ⟨_,_,_,e⟩|⟨_,_,_,e,_⟩
 ·rw[e];exact fun p hp=>by cases hp
 ·exact Kd.all (fun c l P q=>Tr.live q) e
def KR.live{h:Nat}{ks}{cs:List Int}{l}{Q:List Int}(hl:KR (Tr s h) ks cs l Q):∀p∈Q,Bs s p:=by
 rcases hl with ⟨_,_,_,e⟩|⟨_,_,_,e,_⟩
 ·rw[e];exact fun p hp=>by cases hp
 ·exact Kd.all (fun c l P q=>Tr.live q) e
def QV{a b vs l}{Q:List Int}(h:Lf s (a++key::b) vs l Q):
  ∃va c vb l1 v0 l2 P1 Pv P2,vs=va++[c]++vb∧va.length=a.length∧l=l1++[(key,v0)]++l2∧Q=P1++Pv++P2∧Lf s a va l1 P1∧Ce s c v0 Pv∧Lf s b vb l2 P2:=by
 have hl:=h.len.1
 obtain⟨va,c,vb,rfl,e⟩:=Ke vs (i:=a.length) (by rw[hl];simp)
 rw[Aeg] at h
 obtain⟨l1,l',P1,P',rfl,rfl,h1,h2⟩:=h.split e
 obtain⟨l0,l2,Pv,P2,rfl,rfl,h3,h4⟩:=Lf.split (ks:=[key]) (vs:=[c]) h2 Z
 obtain⟨v0,rfl,h5⟩:=h3.AcD
 exact⟨va,c,vb,l1,v0,l2,P1,Pv,P2,Z,e,by simp,by simp,h1,h5,h4⟩
def Q8{a b vs l}{Q:List Int}(h:Lf s (a++b) vs l Q):
  ∃va vb l1 l2 P1 P2,vs=va++vb∧va.length=a.length∧l=l1++l2∧Q=P1++P2∧Lf s a va l1 P1∧Lf s b vb l2 P2:=by
 have hl:=h.len.1
 have e:vs=vs.take a.length++vs.drop a.length:=(Ahs _ _).symm
 have e2:(vs.take a.length).length=a.length:=by simp at hl⊢;omega
 rw[e] at h
 obtain⟨l1,l2,P1,P2,rfl,rfl,h1,h2⟩:=h.split e2
 exact⟨_,_,l1,l2,P1,P2,e,e2,Z,Z,h1,h2⟩
def J3{a va l1}{P1:List Int}(h:Lf s a va l1 P1)(ha:∀x∈a,Lt x key):∀x∈l1,Lt x.1 key:=fun x hx=>ha _ (by rw[h.keys];exact Agl hx)
def Ky{a va l1}{P1:List Int}(h:Lf s a va l1 P1)(ha:∀x∈a,Lt key x):∀x∈l1,Lt key x.1:=fun x hx=>ha _ (by rw[h.keys];exact Agl hx)
def ZN{cell v}(hk:1≤key.length∧key.length≤64):∀(h:Nat) {s}{k:Int}{l}{P Pc:List Int},Pgr.Good s→Tr s (h+1) k l P→(P++Pc).Nodup→Ce s cell v Pc→
  ((B9 s k key cell (h+1)).2.2.2=0∧(B9 s k key cell (h+1)).2.2.1= !isK l key∧∃P',Mv s (B9 s k key cell (h+1)).1 (P++Pc) P' (2*(h+1))∧Out (B9 s k key cell (h+1)).1 h 1 (B9 s k key cell (h+1)).2.1 (Em l key v) P')∨
  ((B9 s k key cell (h+1)).2.2.2=190∧s.free<2*(h+1))
 |0,s,k,l,P,Pc,hG,⟨n,Q,hat,hne,eP,hn⟩,hnd,hc=>by
  subst eP;rw[decide_eq_true Z] at hn;obtain⟨n1,n2⟩:=hn.leaf;have ef:=Eo hat.sound n1;obtain⟨ks,vs,rfl⟩:∃ks vs,n=⟨true,ks,vs,[]⟩:=⟨_,_,ef⟩
  simp only at n2 hne;obtain⟨hko,hvl,hv16⟩:=CC.1 hat.sound;have hlv:=hat.level (x:=((0+1:Nat):Int)) Z;have hlz:(AX s k ((0+1:Nat):Int)).2=0:=by rw[hlv]
  have hln:(AX s k ((0+1:Nat):Int)).1=⟨true,ks,vs,[]⟩:=by rw[hlv]
  have hsz:=hat.size;rw[size_leaf hvl] at hsz;have hcl:=hc.len;have hQl:=n2.live;have hPl:=hc.live;rcases Ju hko (vs:=vs) key with ⟨a,b,rfl,hf,ha,hb⟩|⟨a,b,rfl,hf,ha,hb⟩
  ·rw[W9 hlz hln hf];obtain⟨va,c,vb,l1,v0,l2,P1,Pv,P2,rfl,ev,rfl,rfl,g1,g2,g3⟩:=QV n2;have e0:(va++[c]++vb).getD a.length []=c:=by rw[←ev];exact EZ
   have e1:(va++[c]++vb).set a.length cell=va++[cell]++vb:=by rw[←ev];exact GJ
   simp only[e0,e1];have hnd':(k::(P1++Pc++P2)).Nodup∧Pv.Nodup∧∀p∈k::(P1++Pc++P2),p∉Pv:=by
    have hp:(k::(P1++Pv++P2)++Pc).Perm ((k::(P1++Pc++P2))++Pv):=Aft.2 fun a=>by
     simp only[Agf,Agk];omega
    obtain⟨q1,q2,q3⟩:=Aho.1 (hp.nodup_iff.1 hnd);exact⟨q1,q2,fun p h1 h2=>q3 p h1 p h2 Z⟩
   obtain⟨q1,q2,q3⟩:=hnd';obtain⟨d1,d2⟩:=g2.AcP hG q2;rw[if_neg (by rw[d1];decide)];have hR:∀p∈k::(P1++Pc++P2),Bs s p:=fun p hp=>by
    rcases Aex.1 hp with rfl|hp
    ·exact hat.liv
    ·rcases Aej.1 hp with hp|hp
     ·rcases Aej.1 hp with hp|hp
      ·exact hQl p (by simp[hp])
      ·exact hPl p hp
     ·exact hQl p (by simp[hp])
   have hsm:=d2.same hR q3;have hl1:=J3 g1 ha;have hl2:=Ky g3 hb;have hput:Em (l1++[(key,v0)]++l2) key v=l1++[(key,v)]++l2:=by rw[OU hl1 hl2,AaN]
   have hisk:isK (l1++[(key,v0)]++l2) key=true:=by rw[Ft hl1 hl2,Kx]
   have hLf:Lf (BY s c).1 (a++key::b) (va++[cell]++vb) (l1++[(key,v)]++l2) (P1++Pc++P2):=by
    have w1:=g1.stay (t:=(BY s c).1) (fun p hp=>hsm p (by simp[hp]));have w2:=hc.stay (t:=(BY s c).1) (fun p hp=>hsm p (by simp[hp]));have w3:=g3.stay (t:=(BY s c).1) (fun p hp=>hsm p (by simp[hp]));have:=w1.join ((Lf.one (k:=key) w2).join w3);simpa using this
   have hso:Ba ⟨true,a++key::b,va++[cell]++vb,[]⟩=true:=by
    refine CC.2 ⟨hko,by simp at hvl⊢;omega,fun x hx=>?_⟩;rcases Aej.1 hx with hx|hx
    ·rcases Aej.1 hx with hx|hx
     ·exact hv16 x (by simp[hx])
     ·rw[Aew.1 hx];exact hcl
    ·exact hv16 x (by simp[hx])
   have hnd2:Nd (BY s c).1 (Tr (BY s c).1 0) (decide (0=0)) ⟨true,a++key::b,va++[cell]++vb,[]⟩ (l1++[(key,v)]++l2) (P1++Pc++P2):=by
    rw[decide_eq_true Z];exact .mkl Z hLf
   have hzz:A9 (⟨true,a++key::b,va++[cell]++vb,[]⟩:AK)≤340:=by
    rw[size_leaf (by simp at hvl⊢;omega)];simp only[Aek,Aep,DQ,C5] at hsz⊢;omega
   rcases GC d2.gd (h:=0) (z:=1) hnd2 hso hzz (by unfold Bs;rw[(hsm k (by simp)).1];exact hat.liv) (by simp;omega) q1 with ⟨w1,P',w2,w3⟩|⟨w1,w2⟩
   ·refine .inl ⟨w1,by rw[hisk];rfl,P',?_,by rw[hput];exact w3⟩;refine((d2.then w2 (Afr _) hR q1 q3).perm ?_ (Afr _)).mono (by omega);refine Aft.2 fun a=>?_;simp only[Agf,Agk];omega
   ·exact .inr ⟨w1,by have:=d2.fr;omega⟩
  ·rw[WI hlz hln hf];obtain⟨va,vb,l1,l2,P1,P2,rfl,ev,rfl,rfl,g1,g3⟩:=Q8 n2;have e0:Cb (a++b) a.length key=a++[key]++b:=Pd;have e1:Cb (va++vb) a.length cell=va++[cell]++vb:=by rw[←ev];exact Pd
   simp only[e0,e1];have hl1:=J3 g1 ha;have hl2:=Ky g3 hb;have hput:Em (l1++l2) key v=l1++[(key,v)]++l2:=by
    have:=OU (m:=[]) (v:=v) hl1 hl2;rw[Aav,Afh] at this;exact this
   have hisk:isK (l1++l2) key=false:=by
    have:=Ft (m:=[]) hl1 hl2;rw[Rn,Afh] at this;exact this
   have hLf:Lf s (a++[key]++b) (va++[cell]++vb) (l1++[(key,v)]++l2) (P1++Pc++P2):=by
    have:=g1.join ((Lf.one (k:=key) hc).join g3);simpa using this
   have hko':KO (a++[key]++b):=by
    obtain⟨k1,k2,k3⟩:=KO.app.1 hko;rw[Aeg];refine KO.app.2 ⟨k1,KO.cons.2 ⟨hk,k2,hb⟩,fun x hx y hy=>?_⟩;rcases Aex.1 hy with rfl|hy
    ·exact ha x hx
    ·exact k3 x hx y hy
   have hso:Ba ⟨true,a++[key]++b,va++[cell]++vb,[]⟩=true:=by
    refine CC.2 ⟨hko',by simp at hvl⊢;omega,fun x hx=>?_⟩;rcases Aej.1 hx with hx|hx
    ·rcases Aej.1 hx with hx|hx
     ·exact hv16 x (by simp[hx])
     ·rw[Aew.1 hx];exact hcl
    ·exact hv16 x (by simp[hx])
   have hnd2:Nd s (Tr s 0) (decide (0=0)) ⟨true,a++[key]++b,va++[cell]++vb,[]⟩ (l1++[(key,v)]++l2) (P1++Pc++P2):=by
    rw[decide_eq_true Z];exact .mkl Z hLf
   have hzz:A9 (⟨true,a++[key]++b,va++[cell]++vb,[]⟩:AK)≤340:=by
    rw[size_leaf (by simp at hvl⊢;omega)];simp only[Aek,Aep,Agm,DQ,C5] at hsz⊢;omega
   have hp:(k::(P1++P2)++Pc).Perm (k::(P1++Pc++P2)):=Aft.2 fun a=>by
     simp only[Agf,Agk];omega
   rcases GC hG (h:=0) (z:=1) hnd2 hso hzz hat.liv (by simp;omega) (hp.nodup_iff.1 hnd) with ⟨w1,P',w2,w3⟩|⟨w1,w2⟩
   ·exact .inl ⟨w1,by rw[hisk];rfl,P',(w2.perm hp (Afr _)).mono (by omega),by rw[hput];exact w3⟩
   ·exact .inr ⟨w1,by omega⟩
 |h+1,s,k,l,P,Pc,hG,⟨n,Q,hat,hne,eP,hn⟩,hnd,hc=>by
  subst eP;rw[decide_eq_false (Ago _)] at hn;obtain⟨n1,n2⟩:=hn.inner;have ef:=Eg hat.sound n1;obtain⟨ks,cs,rfl⟩:∃ks cs,n=⟨false,ks,[],cs⟩:=⟨_,_,ef⟩
  simp only at n2 hne;obtain⟨hko,hcl,hrng⟩:=Ch.1 hat.sound;have hlv:=hat.level (x:=((h+1+1:Nat):Int)) (by show false=_;exact(decide_eq_false (by omega)).symm);have hlz:(AX s k ((h+1+1:Nat):Int)).2=0:=by rw[hlv]
  have hln:(AX s k ((h+1+1:Nat):Int)).1=⟨false,ks,[],cs⟩:=by rw[hlv]
  obtain⟨a,b,rfl,hf,ha,hb⟩:=Iv hat.sound key;rw[QH hlz hln hf];obtain⟨ca,c,cb,rfl,ec⟩:=Ke cs (i:=a.length) (by rw[hcl];simp;omega);have e0:(ca++[c]++cb).getD a.length 0=c:=by rw[←ec];exact EZ
  simp only[e0];have n2':Kd (Tr s (h+1)) (a++[]++b) (ca++[c]++cb) l Q:=by simpa using n2
  obtain⟨l1,m,l2,P1,Pm,P2,rfl,rfl,g1,g2,g3,g4,g5⟩:=n2'.focus (by simpa using hko) ec Z;have hl1:∀x∈l1,Lt x.1 key:=fun x hx=>by
   obtain⟨p,p1,p2⟩:=g1.below x hx;exact HG p2 (ha p p1)
  have hl2:∀x∈l2,Lt key x.1:=fun x hx=>by
   obtain⟨p,p1,p2⟩:=g3.SR x hx;exact HG (hb p p1) p2
  have hp:(k::(P1++Pm++P2)++Pc).Perm ((Pm++Pc)++(k::(P1++P2))):=Aft.2 fun a=>by
     simp only[Agf,Agk];omega
  obtain⟨q1,q2,q3⟩:=Aho.1 (hp.nodup_iff.1 hnd);have q3':∀p∈k::(P1++P2),p∉Pm++Pc:=fun p h1 h2=>q3 p h2 p h1 Z;have hR:∀p∈k::(P1++P2),Bs s p:=fun p hp=>by
   rcases Aex.1 hp with rfl|hp
   ·exact hat.liv
   ·exact(Aej.1 hp).elim (g1.live p) (g3.live p)
  rcases ZN hk h hG g2 q1 hc with ⟨w1,w2,P',w3,w4⟩|⟨w1,w2⟩
  ·rw[if_neg (by rw[w1];decide)];generalize B9 s c key cell (h+1)=u at w1 w2 w3 w4⊢;have hsm:=w3.same hR q3';have hput:Em (l1++m++l2) key v=l1++Em m key v++l2:=OU hl1 hl2;have hisk:isK (l1++m++l2) key=isK m key:=Ft hl1 hl2;have w5:=w3.frame hR q2 q3';have hp2:(P'++(k::(P1++P2))).Perm (k::(P1++P'++P2)):=Aft.2 fun a=>by
     simp only[Agf,Agk];omega
   have hat':=hat.stay (hsm k (Aeo ..));rcases UC w3.gd hat' ec hne (g1.stay (fun p hp=>hsm p (by simp[hp]))) (g3.stay (fun p hp=>hsm p (by simp[hp]))) w4
    (fun p hp x hx=>by
     rcases OY hx with rfl|hx
     ·exact ha p hp
     ·exact g4 p hp x hx) (fun p hp x hx=>by
     rcases OY hx with rfl|hx
     ·exact hb p hp
     ·exact g5 p hp x hx) (hp2.nodup_iff.1 w5.nd) with ⟨y1,P2',y2,y3⟩|⟨y1,y2⟩
   ·refine .inl ⟨y1,by rw[w2,hisk],P2',?_,by rw[hput];exact y3⟩;exact((w5.trans (y2.perm hp2 (Afr _))).perm hp (Afr _)).mono (by omega)
   ·exact .inr ⟨y1,by have:=w3.fr;omega⟩
  ·rw[if_pos (by rw[w1];decide)];exact .inr ⟨w1,by omega⟩
end
end Go.Gk.Tre
end
section
namespace Go.Gk
def Tn{b:Nat}{T T' l l'}(h:bx b T l=bx b T' l'):T=T'∧l=l':=by
 have h1:bx b T l b (Obj.cells l.toArray T (0,0)):=CN _ _;rw[h] at h1;have h2:=(Hx h1).2;simp only[Obj.cells.injEq] at h2;exact⟨h2.2.1,by simpa using h2.1⟩
def As.all{α:Type}{R:Ac→List Value→α→Prop}(hR:FZ R){d:Ac}{v:Value}{xs:List α}{h:Ac}(o:As 1 R d v xs h)(hx:0<xs.length):
  ∃b T l c,v=.slice (some ⟨b,0,none⟩) xs.length c∧h=bx b T l∧xs.length≤l.length∧(∀j (hj:j<xs.length),∃u,l[j*1+0]?=some u∧R d [u] xs[j])∧
   ∀d' j u x,Le d d'→j<xs.length→R d' [u] x→As 1 R d' v (xs.set j x) (bx b T (patch l (j*1) [u])):=by
 obtain⟨b,T,l,c,cs,e1,e2, -, -, -, -, -⟩:=As.at (by omega) o hx
 subst e1;subst e2
 have key:∀j (hj:j<xs.length),j*1+1≤l.length∧(∃u,l[j*1+0]?=some u∧R d [u] xs[j]):=by
  intro j hj;obtain⟨b',T',l',c',cs',q1,q2,q3,q4,q5,q6,q7⟩:=As.at (by omega) o hj;cases q1;obtain⟨rfl,rfl⟩:=Tn q2;refine⟨q5,?_⟩
  match cs',q3 with
  |[u],_=>exact⟨u,q4 0 u Z,q6⟩
 refine⟨b,T,l,c,Z,Z,?_,fun j hj=>(key j hj).2,fun d' j u x hl hj hu=>?_⟩
 rotate_left
 ·obtain⟨b',T',l',c',cs',q1,q2,q3,q4,q5,q6,q7⟩:=As.at (by omega) (As.mono (R:=R) hR o hl) hj
  cases q1
  obtain⟨rfl,rfl⟩:=Tn q2
  exact q7 [u] x Z hu
 have:=(key (xs.length - 1) (by omega)).1
 omega
def Ua{P}{Q:B5}{ρ d L s}(Ls L1:List Ac)(hL:L.Perm (Ls++L1))(h:gws P Q.pan Q.n s Ls ρ d L1):gwp P (.reg true s) Q ρ d L:=⟨d,Ls,L1,Vs.perm hL,h⟩
end Go.Gk
namespace Go.Gk.Tre
open Go Go.Gk Go.Gk.Dev Go.Gk.Cch Go.Gk.Pgr Go.Gk.Chn Go.Gk.Node
def Uu{s}{k:Int}{n:AK}{i0 i:Nat}{a b:AK×Int}(hk:n.keys.length≠0)(hi:i=if i0=n.keys.length then i0 - 1 else i0)(ha:Bo s (n.kids.getD i 0)=a)(hb:Bo s (n.kids.getD (i+1) 0)=b):
  DW s k n i0=if a.2≠0 then(s,Cq,a.2) else if b.2≠0 then(s,Cq,b.2) else if a.1.leaf≠b.1.leaf then(s,Cq,200) else
   let w:=Bk s (n.kids.getD i 0) (Cs a.1 b.1 (n.keys.getD i []))
   if w.2.2≠0 then(w.1,Cq,w.2.2) else
   let u:=w.1.drop (n.kids.getD (i+1) 0)
   if u.2≠0 then(u.1,Cq,u.2) else
   if 0≤w.2.1.other then Bk u.1 k {n with keys:=n.keys.set i w.2.1.key,kids:=(n.kids.set i w.2.1.page).set (i+1) w.2.1.other}
   else Bk u.1 k {n with keys:=n.keys.eraseIdx i,kids:=(n.kids.set i w.2.1.page).eraseIdx (i+1)}:=by
 subst hi;subst ha;subst hb
 unfold DW
 exact if_neg hk
end Go.Gk.Tre
end
section
namespace Go.Gk.Tre
open Go Go.Gk Go.Gk.Dev Go.Gk.Cch Go.Gk.Pgr Go.Gk.Chn Go.Gk.Node
variable{t:PD}
section
def FN.trans{s u}{P:List Int}(h:FN s t P)(k:FN t u P):FN s u P:=fun p hp=>⟨(k p hp).1.trans (h p hp).1,(k p hp).2.trans (h p hp).2⟩
def FN.sub{s}{P Q:List Int}(h:FN s t P)(hs:∀p∈Q,p∈P):FN s t Q:=fun p hp=>h p (hs p hp)
def Acl{n:AK}(hs:Ba n=true)(hz:5≤A9 n):n.keys≠[]:=by
 intro e;cases hl:n.leaf with
 |true=>
  have ef:=Eo hs hl
  rw[ef] at hs
  have h2:=(CC.1 hs).2.1
  have:=(congrArg A9 ef).trans (size_leaf h2)
  rw[e] at this h2
  rw[Ael h2] at this
  simp only[C5,Agm] at this;omega
 |false=>
  have ef:=Eg hs hl
  rw[ef] at hs
  have h2:=(Ch.1 hs).2.1
  have:=(congrArg A9 ef).trans size_inner
  rw[h2,e] at this
  simp only[C5,Agm] at this;omega
section
variable {α:Type}
def YZ{a b:List α}{x y d:α}:(a++[x,y]++b).getD (a.length+1) d=y:=by
 rw[show a++[x,y]++b=(a++[x])++[y]++b by simp,show a.length+1=(a++[x]).length by simp];exact EZ
def Zy{a b:List α}{x y d:α}:(a++[x,y]++b).getD a.length d=x:=by
 rw[show a++[x,y]++b=a++[x]++(y::b) by simp];exact EZ
def AaJ{a b:List α}{x y u w:α}:((a++[x,y]++b).set a.length u).set (a.length+1) w=a++[u,w]++b:=by
 rw[show a++[x,y]++b=a++[x]++(y::b) by simp,GJ,show a++[u]++y::b=(a++[u])++[y]++b by simp,show a.length+1=(a++[u]).length by simp,GJ];simp
def XI{a b:List α}{x y u:α}:((a++[x,y]++b).set a.length u).eraseIdx (a.length+1)=a++[u]++b:=by
 rw[show a++[x,y]++b=a++[x]++(y::b) by simp,GJ,show a++[u]++y::b=(a++[u])++[y]++b by simp,show a.length+1=(a++[u]).length by simp,Jl]
end
def Xr(hG:Pgr.Good t){h i0:Nat}{k c1 c2:Int}{a b kk}{ca cb:List Int}{n1 n2:AK}{l1 m1 m2 l2}{P1 Q1 Q2 P2:List Int}
  (hk:Bs t k) (ea:ca.length=a.length) (eb:cb.length=b.length) (hko:KO (a++[kk]++b)) (hrng:∀c∈ca++cb,0≤c∧c≤8191) (hsz:A9 (⟨false,a++[kk]++b,[],ca++[c1,c2]++cb⟩:AK)≤256)
  (hi:a.length=if i0=(a++[kk]++b).length then i0 - 1 else i0)
  (hl:KL (Tr t (h+1)) a ca l1 P1) (hr:KR (Tr t (h+1)) b cb l2 P2) (a1:At t c1 n1) (d1:Nd t (Tr t h) (decide (h=0)) n1 m1 Q1) (a2:At t c2 n2) (d2:Nd t (Tr t h) (decide (h=0)) n2 m2 Q2)
  (hz:A9 n1+A9 n2≤335) (hne:n1.keys≠[]∨n2.keys≠[]) (b1:∀x∈m1,Lt x.1 kk) (b2:∀x∈m2,¬Lt x.1 kk) (ba:∀k∈a,∀x∈m1++m2,¬Lt x.1 k) (bb:∀k∈b,∀x∈m1++m2,Lt x.1 k)
  (hnd:(k::(P1++(c1::Q1++c2::Q2)++P2)).Nodup):
  ((DW t k ⟨false,a++[kk]++b,[],ca++[c1,c2]++cb⟩ i0).2.2=0∧∃P',Mv t (DW t k ⟨false,a++[kk]++b,[],ca++[c1,c2]++cb⟩ i0).1 (k::(P1++(c1::Q1++c2::Q2)++P2)) P' 4∧
   Out (DW t k ⟨false,a++[kk]++b,[],ca++[c1,c2]++cb⟩ i0).1 (h+1) 0 (DW t k ⟨false,a++[kk]++b,[],ca++[c1,c2]++cb⟩ i0).2.1 (l1++(m1++m2)++l2) P')∨
  ((DW t k ⟨false,a++[kk]++b,[],ca++[c1,c2]++cb⟩ i0).2.2=190∧t.free<4):=by
 obtain⟨ko1,ko2,ko3⟩:=KO.app.1 hko
 obtain⟨ko4,ko5,ko6⟩:=KO.app.1 ko1
 have hkk:=ko5.1 kk (by simp)
 have e1:(ca++[c1,c2]++cb).getD a.length 0=c1:=by rw[←ea];exact Zy
 have e2:(ca++[c1,c2]++cb).getD (a.length+1) 0=c2:=by rw[←ea];exact YZ
 have e3:(a++[kk]++b).getD a.length []=kk:=EZ
 have hm:=Uu (s:=t) (k:=k) (n:=⟨false,a++[kk]++b,[],ca++[c1,c2]++cb⟩) (i0:=i0) (i:=a.length) (a:=(n1,0)) (b:=(n2,0)) (by simp) hi (by rw[show(⟨false,a++[kk]++b,[],ca++[c1,c2]++cb⟩:AK).kids.getD a.length 0=c1 from e1];exact a1.read)
  (by rw[show(⟨false,a++[kk]++b,[],ca++[c1,c2]++cb⟩:AK).kids.getD (a.length+1) 0=c2 from e2];exact a2.read)
 rw[hm,if_neg (fun q=>q Z),if_neg (fun q=>q Z),if_neg (fun q=>q (d1.1.trans d2.1.symm))]
 clear hm
 simp only[e1,e2,e3]
 obtain⟨dj,sj,zj,lj,ej⟩:=d1.join (fun c l P q=>Tr.ne q) d2 a1.sound a2.sound b1 b2 hkk
 have hp0:(k::(P1++(c1::Q1++c2::Q2)++P2)).Perm ((c1::(Q1++Q2))++([c2]++(k::(P1++P2)))):=Aft.2 fun a=>by
  simp only[Agf,Agk,Aik];omega
 obtain⟨q1,q2,q3⟩:=Aho.1 (hp0.nodup_iff.1 hnd)
 have q3':∀p∈[c2]++(k::(P1++P2)),p∉c1::(Q1++Q2):=fun p h1 h2=>q3 p h2 p h1 Z
 have hR:∀p∈[c2]++(k::(P1++P2)),Bs t p:=fun p hp=>by
  rcases Aej.1 hp with hp|hp
  ·rw[Aew.1 hp];exact a2.liv
  ·rcases Aex.1 hp with rfl|hp
   ·exact hk
   ·exact(Aej.1 hp).elim (hl.live p) (hr.live p)
 have hzj:A9 (Cs n1 n2 kk)≤if (Cs n1 n2 kk).leaf=true then 340 else 440:=by
  rw[lj];cases hb:decide (h=0) with
  |true=>rw[hb] at zj;simp only[if_true] at zj⊢;omega
  |false=>rw[hb] at zj;simp only[Aeh,if_false] at zj⊢;omega
 have hkj:1≤(Cs n1 n2 kk).keys.length:=F0.1 fun e=>by
  obtain⟨-,f1,f2⟩:=ej e;exact hne.elim (fun q=>q f1) (fun q=>q f2)
 have hs0:=GC hG (h:=h) (z:=1) dj sj hzj a1.liv hkj q1
 generalize Bk t c1 (Cs n1 n2 kk)=w at hs0⊢
 rcases hs0.symm with ⟨w1,w2⟩|⟨w1,Pj,w2,w3⟩
 ·rw[if_pos (by rw[w1];decide)]
  exact .inr ⟨w1,by omega⟩
 rw[if_neg (by rw[w1];decide)]
 have hsm1:=w2.same hR q3'
 have w4:=w2.frame hR q2 q3'
 have hp1:(Pj++([c2]++(k::(P1++P2)))).Perm ([c2]++(Pj++(k::(P1++P2)))):=Aft.2 fun a=>by
  simp only[Agf,Agk,Aik];omega
 obtain⟨r1,r2,r3⟩:=Aho.1 (hp1.nodup_iff.1 w4.nd)
 have r3':∀p∈Pj++(k::(P1++P2)),p∉ [c2]:=fun p h1 h2=>r3 p h2 p h1 Z
 have hc2:Bs w.1 c2:=by unfold Bs;rw[(hsm1 c2 (by simp)).1];exact a2.liv
 obtain⟨u1,u2⟩:=JL w2.gd hc2
 have hR2:∀p∈Pj++(k::(P1++P2)),Bs w.1 p:=fun p hp=>(w4.lv p).2 (.inr (by
  rcases Aej.1 hp with q|q
  ·exact Afc _ q
  ·exact Afe _ (Afe _ q)))
 have hsm2:=u2.same hR2 r3'
 have u3:=u2.frame hR2 r2 r3'
 generalize w.1.drop c2=u at u1 u2 u3 hsm2⊢
 rw[if_neg (by rw[u1];decide)]
 have hsm:FN t u.1 (k::(P1++P2)):=(hsm1.sub (fun p hp=>Afe _ hp)).trans (hsm2.sub (fun p hp=>Afe _ hp))
 have hl':=hl.stay (hsm.sub (fun p hp=>by simp[hp]))
 have hr':=hr.stay (hsm.sub (fun p hp=>by simp[hp]))
 have ho':=w3.stay (hsm2.sub (fun p hp=>Afc _ hp))
 have hk':Bs u.1 k:=by unfold Bs;rw[(hsm k (by simp)).1];exact hk
 have M:Mv t u.1 (k::(P1++(c1::Q1++c2::Q2)++P2)) (k::(P1++Pj++P2)) 2:=by
  refine((w4.trans (u3.perm hp1 (Afr _))).perm hp0 ?_).mono (by omega);refine Aft.2 fun a=>?_;simp only[Agf,Agk,Aik];omega
 have hd:decide (h+1=0)=false:=decide_eq_false (Ago _)
 have hGu:=u2.gd
 have hszE:=hsz
 rw[size_inner] at hszE
 have fin:∀{n':AK}{l},n'.leaf=false→Nd u.1 (Tr u.1 (h+1)) (decide (h+1=0)) n' l (P1++Pj++P2)→Ba n'=true→A9 n'≤440→
   ((Bk u.1 k n').2.2=0∧∃P',Mv t (Bk u.1 k n').1 (k::(P1++(c1::Q1++c2::Q2)++P2)) P' 4∧Out (Bk u.1 k n').1 (h+1) 0 (Bk u.1 k n').2.1 l P')∨((Bk u.1 k n').2.2=190∧t.free<4):=by
  intro n' l hlf hnd' hs' hz'
  rcases GC hGu (h:=h+1) (z:=0) hnd' hs' (by rw[hlf];simpa using hz') hk' (Aez _) M.nd with ⟨y1,P',y2,y3⟩|⟨y1,y2⟩
  ·exact .inl ⟨y1,P',(M.trans y2).mono (by omega),y3⟩
  ·exact .inr ⟨y1,by have:=M.fr;omega⟩
 by_cases h2:0≤w.2.1.other
 ·rw[if_pos h2]
  have f1:(a++[kk]++b).set a.length w.2.1.key=a++[w.2.1.key]++b:=GJ
  have f2:((ca++[c1,c2]++cb).set a.length w.2.1.page).set (a.length+1) w.2.1.other=ca++[w.2.1.page,w.2.1.other]++cb:=by rw[←ea];exact AaJ
  simp only[f1,f2]
  rcases ho' with ⟨q,_⟩|⟨_,_,x1,x2,X1,X2,ex,rfl,g1,g2,g3,g4,g5,g6⟩
  ·omega
  ·obtain⟨y1,t1,f3⟩:=Ahh g1.ne
   obtain⟨y2,t2,f4⟩:=Ahh g2.ne
   have ha':∀k∈a,Lt k w.2.1.key:=fun p hp=>NH (ba p hp y1 (by rw[ex,f3];simp)) (g3 y1 (by simp[f3]))
   have hb':∀k∈b,Lt w.2.1.key k:=fun p hp=>NH (g4 y2 (by simp[f4])) (bb p hp y2 (by rw[ex,f4];simp))
   have hko':KO (a++[w.2.1.key]++b):=by
    rw[Aeg];refine KO.app.2 ⟨ko4,KO.cons.2 ⟨⟨g5,g6⟩,ko2,hb'⟩,fun x hx y hy=>?_⟩;rcases Aex.1 hy with rfl|hy
    ·exact ha' x hx
    ·exact ko3 x (Afc _ hx) y hy
   obtain⟨v1,v1Q,v1a,_,v1e,_⟩:=id g1
   obtain⟨v2,v2Q,v2a,_,v2e,_⟩:=id g2
   refine fin Z ?_ (Ch.2 ⟨hko',by simp[ea,eb];omega,fun p hp=>?_⟩) ?_
   ·rw[hd]
    have:=Kd.Ka (km:=[w.2.1.key]) (cm:=[w.2.1.page,w.2.1.other]) hl' (Kd.cons.2 ⟨x1,x2,X1,X2,Z,Z,g1,g3,g4,Kd.one.2 g2⟩) hr' hko' (by rw[←ex];exact ba) (by rw[←ex];exact bb)
    rw[←ex] at this
    exact .mki Z this
   ·rcases Aej.1 hp with hp|hp
    ·rcases Aej.1 hp with hp|hp
     ·exact hrng p (by simp[hp])
     ·rcases Aex.1 hp with rfl|hp
      ·exact D9 hGu v1a.liv
      ·rw[Aew.1 hp];exact D9 hGu v2a.liv
    ·exact hrng p (by simp[hp])
   ·rw[size_inner]
    simp only[Aek,Aep,Agm,DQ,C5] at hszE⊢
    omega
 ·rw[if_neg h2]
  have f1:(a++[kk]++b).eraseIdx a.length=a++b:=Jl
  have f2:((ca++[c1,c2]++cb).set a.length w.2.1.page).eraseIdx (a.length+1)=ca++[w.2.1.page]++cb:=by rw[←ea];exact XI
  simp only[f1,f2]
  have htr:=ho'.tr (by omega) (Aef _)
  obtain⟨v1,v1Q,v1a,_,v1e,_⟩:=id htr
  have hko':KO (a++b):=KO.app.2 ⟨ko4,ko2,fun x hx y hy=>ko3 x (Afc _ hx) y hy⟩
  refine fin Z ?_ (Ch.2 ⟨hko',by simp[ea,eb];omega,fun p hp=>?_⟩) ?_
  ·rw[hd]
   refine .mki Z ?_
   have:=Kd.Ka (km:=[]) (cm:=[w.2.1.page]) hl' (Kd.one.2 htr) hr' (by simpa using hko') ba bb
   simpa using this
  ·rcases Aej.1 hp with hp|hp
   ·rcases Aej.1 hp with hp|hp
    ·exact hrng p (by simp[hp])
    ·rw[Aew.1 hp];exact D9 hGu v1a.liv
   ·exact hrng p (by simp[hp])
  ·rw[size_inner]
   simp only[Aek,Aep,Agm,DQ,C5] at hszE⊢
   omega
end
def SY(key:List UInt8)(h:Nat):Prop:=∀{s}{k:Int}{l}{P:List Int},Pgr.Good s→Tr s (h+1) k l P→P.Nodup→
  ((B3 s k key (h+1)).2.2.2=0∧(B3 s k key (h+1)).2.2.1=isK l key∧((isK l key=false∧(B3 s k key (h+1)).1=s)∨
   (isK l key=true∧∃P',Mv s (B3 s k key (h+1)).1 P P' (4*(h+1))∧Out (B3 s k key (h+1)).1 h 0 (B3 s k key (h+1)).2.1 (Cn l key).1 P')))∨
  ((B3 s k key (h+1)).2.2.2=190∧s.free<4*(h+1))
def AaK{key}:SY key 0:=by
  intro s k l P hG ⟨n,Q,hat,hne,eP,hn⟩ hnd;subst eP;rw[decide_eq_true Z] at hn;obtain⟨n1,n2⟩:=hn.leaf;have ef:=Eo hat.sound n1;obtain⟨ks,vs,rfl⟩:∃ks vs,n=⟨true,ks,vs,[]⟩:=⟨_,_,ef⟩
  simp only at n2 hne;obtain⟨hko,hvl,hv16⟩:=CC.1 hat.sound;have hlv:=hat.level (x:=((0+1:Nat):Int)) Z;have hlz:(AX s k ((0+1:Nat):Int)).2=0:=by rw[hlv]
  have hln:(AX s k ((0+1:Nat):Int)).1=⟨true,ks,vs,[]⟩:=by rw[hlv]
  have hsz:=hat.size;rw[size_leaf hvl] at hsz;have hQl:=n2.live;rcases Ju hko (vs:=vs) key with ⟨a,b,rfl,hf,ha,hb⟩|⟨a,b,rfl,hf,ha,hb⟩
  ·rw[WO hlz hln hf];obtain⟨va,c,vb,l1,v0,l2,P1,Pv,P2,rfl,ev,rfl,rfl,g1,g2,g3⟩:=QV n2;have e0:(va++[c]++vb).getD a.length []=c:=by rw[←ev];exact EZ
   have e1:(va++[c]++vb).eraseIdx a.length=va++vb:=by rw[←ev];exact Jl
   have e2:(a++key::b).eraseIdx a.length=a++b:=by
    have:=Jl (a:=a) (b:=b) (x:=key);simpa using this
   simp only[e0,e1,e2];have hp:(k::(P1++Pv++P2)).Perm ((k::(P1++P2))++Pv):=Aft.2 fun a=>by
    simp only[Agf,Agk];omega
   obtain⟨q1,q2,q3⟩:=Aho.1 (hp.nodup_iff.1 hnd);have q3':∀p∈k::(P1++P2),p∉Pv:=fun p h1 h2=>q3 p h1 p h2 Z;obtain⟨d1,d2⟩:=g2.AcP hG q2;rw[if_neg (by rw[d1];decide)];have hR:∀p∈k::(P1++P2),Bs s p:=fun p hp=>by
    rcases Aex.1 hp with rfl|hp
    ·exact hat.liv
    ·rcases Aej.1 hp with hp|hp
     ·exact hQl p (by simp[hp])
     ·exact hQl p (by simp[hp])
   have hsm:=d2.same hR q3';have hl1:=J3 g1 ha;have hl2:=Ky g3 hb;have hdel:(Cn (l1++[(key,v0)]++l2) key).1=l1++l2:=by rw[Pq hl1 hl2,Vy];simp
   have hisk:isK (l1++[(key,v0)]++l2) key=true:=by rw[Ft hl1 hl2,Kx]
   have hLf:Lf (BY s c).1 (a++b) (va++vb) (l1++l2) (P1++P2):=by
    have w1:=g1.stay (t:=(BY s c).1) (fun p hp=>hsm p (by simp[hp]));have w3:=g3.stay (t:=(BY s c).1) (fun p hp=>hsm p (by simp[hp]));exact w1.join w3
   have hko':KO (a++b):=by
    obtain⟨k1,k2,k3⟩:=KO.app.1 hko;exact KO.app.2 ⟨k1,(KO.cons.1 k2).2.1,fun x hx y hy=>k3 x hx y (Aev _ hy)⟩
   have hso:Ba ⟨true,a++b,va++vb,[]⟩=true:=by
    refine CC.2 ⟨hko',by simp at hvl⊢;omega,fun x hx=>?_⟩;rcases Aej.1 hx with hx|hx
    ·exact hv16 x (by simp[hx])
    ·exact hv16 x (by simp[hx])
   have hnd2:Nd (BY s c).1 (Tr (BY s c).1 0) (decide (0=0)) ⟨true,a++b,va++vb,[]⟩ (l1++l2) (P1++P2):=by
    rw[decide_eq_true Z];exact .mkl Z hLf
   have hzz:A9 (⟨true,a++b,va++vb,[]⟩:AK)≤340:=by
    rw[size_leaf (by simp at hvl⊢;omega)];simp only[Aek,Aep,DQ,C5] at hsz⊢;omega
   rcases GC d2.gd (h:=0) (z:=0) hnd2 hso hzz (by unfold Bs;rw[(hsm k (by simp)).1];exact hat.liv) (Aez _) q1 with ⟨w1,P',w2,w3⟩|⟨w1,w2⟩
   ·refine .inl ⟨w1,by rw[hisk],.inr ⟨hisk,P',?_,by rw[hdel];exact w3⟩⟩;refine((d2.then w2 (Afr _) hR q1 q3').perm ?_ (Afr _)).mono (by omega);refine Aft.2 fun a=>?_;simp only[Agf,Agk];omega
   ·exact .inr ⟨w1,by have:=d2.fr;omega⟩
  ·rw[WB hlz hln hf];obtain⟨va,vb,l1,l2,P1,P2,rfl,ev,rfl,rfl,g1,g3⟩:=Q8 n2;have hl1:=J3 g1 ha;have hl2:=Ky g3 hb;have hisk:isK (l1++l2) key=false:=by
    have:=Ft (m:=[]) hl1 hl2;rw[Rn,Afh] at this;exact this
   exact .inl ⟨Z,by rw[hisk],.inl ⟨hisk,Z⟩⟩
def AaG{key}{h:Nat}(ihh:SY key h):SY key (h+1):=by
  intro s k l P hG ⟨n,Q,hat,hne,eP,hn⟩ hnd;subst eP;rw[decide_eq_false (Ago _)] at hn;obtain⟨n1,n2⟩:=hn.inner;have ef:=Eg hat.sound n1;obtain⟨ks,cs,rfl⟩:∃ks cs,n=⟨false,ks,[],cs⟩:=⟨_,_,ef⟩
  simp only at n2 hne;obtain⟨hko,hcl,hrng⟩:=Ch.1 hat.sound;have hlv:=hat.level (x:=((h+1+1:Nat):Int)) (by show false=_;exact(decide_eq_false (by omega)).symm);have hlz:(AX s k ((h+1+1:Nat):Int)).2=0:=by rw[hlv]
  have hln:(AX s k ((h+1+1:Nat):Int)).1=⟨false,ks,[],cs⟩:=by rw[hlv]
  obtain⟨a,b,rfl,hf,ha,hb⟩:=Iv hat.sound key;obtain⟨ca,c,cb,rfl,ec⟩:=Ke cs (i:=a.length) (by rw[hcl];simp;omega);have ecb:cb.length=b.length:=by simp at hcl;omega
  have e0:(⟨false,a++b,[],ca++[c]++cb⟩:AK).kids.getD a.length 0=c:=by show(ca++[c]++cb).getD a.length 0=c;rw[←ec];exact EZ
  have n2':Kd (Tr s (h+1)) (a++[]++b) (ca++[c]++cb) l Q:=by simpa using n2
  obtain⟨l1,m,l2,P1,Pm,P2,rfl,rfl,g1,g2,g3,g4,g5⟩:=n2'.focus (by simpa using hko) ec Z;have hl1:∀x∈l1,Lt x.1 key:=fun x hx=>by
   obtain⟨p,p1,p2⟩:=g1.below x hx;exact HG p2 (ha p p1)
  have hl2:∀x∈l2,Lt key x.1:=fun x hx=>by
   obtain⟨p,p1,p2⟩:=g3.SR x hx;exact HG (hb p p1) p2
  have hp:(k::(P1++Pm++P2)).Perm (Pm++(k::(P1++P2))):=Aft.2 fun a=>by
     simp only[Agf,Agk];omega
  obtain⟨q1,q2,q3⟩:=Aho.1 (hp.nodup_iff.1 hnd);have q3':∀p∈k::(P1++P2),p∉Pm:=fun p h1 h2=>q3 p h2 p h1 Z;have hR:∀p∈k::(P1++P2),Bs s p:=fun p hp=>by
   rcases Aex.1 hp with rfl|hp
   ·exact hat.liv
   ·exact(Aej.1 hp).elim (g1.live p) (g3.live p)
  rw[PK hlz hln hf (u:=B3 s c key (h+1)) (by rw[e0])];have hisk:isK (l1++m++l2) key=isK m key:=Ft hl1 hl2;have hdel:(Cn (l1++m++l2) key).1=l1++(Cn m key).1++l2:=by rw[Pq hl1 hl2]
  have ih:=ihh hG g2 q1;generalize B3 s c key (h+1)=u at ih⊢;rcases ih with ⟨w1,w2,⟨w3,w4⟩|⟨w3,P',w4,w5⟩⟩|⟨w1,w2⟩
  ·rw[if_pos (.inr (by rw[w2,w3]))];exact .inl ⟨w1,by rw[w2,hisk],.inl ⟨by rw[hisk,w3],w4⟩⟩
  ·rw[if_neg (by rw[w1,w2,w3];simp)];have hsm:=w4.same hR q3';have w6:=w4.frame hR q2 q3';have hp2:(P'++(k::(P1++P2))).Perm (k::(P1++P'++P2)):=Aft.2 fun a=>by
     simp only[Agf,Agk];omega
   have hnd2:=hp2.nodup_iff.1 w6.nd;have w7:=w6.perm hp hp2.symm;have hat':=hat.stay (hsm k (Aeo ..));have g1':=g1.stay (fun p hp=>hsm p (by simp[hp]));have g3':=g3.stay (fun p hp=>hsm p (by simp[hp]));have ba:∀k∈a,∀x∈(Cn m key).1,¬Lt x.1 k:=fun p hp x hx=>g4 p hp x (Jd hx);have bb:∀k∈b,∀x∈(Cn m key).1,Lt x.1 k:=fun p hp x hx=>g5 p hp x (Jd hx);by_cases h2:u.2.1.other<0∧u.2.1.size<80
   ·rw[if_pos h2];obtain⟨n0,Q0,b1,b2,eP',b4⟩:∃n0 Q0,At u.1 u.2.1.page n0∧u.2.1.size=A9 n0∧P'=u.2.1.page::Q0∧Nd u.1 (Tr u.1 h) (decide (h=0)) n0 (Cn m key).1 Q0:=by
     rcases w5 with ⟨_,n0,Q0,b1,b2,e,_,b4⟩|⟨z1,_⟩
     ·exact⟨n0,Q0,b1,b2,e,b4⟩
     ·omega
    subst eP';have hz0:A9 n0≤79:=by have:=h2.2;omega
    have hsz:=hat.size;rw[size_inner] at hsz;have e1:(ca++[c]++cb).set a.length u.2.1.page=ca++[u.2.1.page]++cb:=by rw[←ec,GJ]
    simp only[e1];have fin:∀{r:PD×MdD×Int}{A:List Int}{l},(k::(P1++(u.2.1.page::Q0)++P2)).Perm A→l=l1++(Cn m key).1++l2→((r.2.2=0∧∃P'',Mv u.1 r.1 A P'' 4∧Out r.1 (h+1) 0 r.2.1 l P'')∨(r.2.2=190∧u.1.free<4))→
      ((r.2.2=0∧true=isK (l1++m++l2) key∧((isK (l1++m++l2) key=false∧r.1=s)∨(isK (l1++m++l2) key=true∧∃P'',Mv s r.1 (k::(P1++Pm++P2)) P'' (4*(h+1+1))∧Out r.1 (h+1) 0 r.2.1 (Cn (l1++m++l2) key).1 P'')))∨(r.2.2=190∧s.free<4*(h+1+1))):=by
     intro r A l hA el hr
     rcases hr with ⟨y1,P2',y2,y3⟩|⟨y1,y2⟩
     ·exact .inl ⟨y1,by rw[hisk,w3],.inr ⟨by rw[hisk,w3],P2',(w7.trans (y2.perm hA (Afr _))).mono (by omega),by rw[hdel,←el];exact y3⟩⟩
     ·exact .inr ⟨y1,by have:=w4.fr;omega⟩
    by_cases hbe:b=[]
    ·subst hbe;rcases g3 with ⟨_,rfl,rfl,rfl⟩|⟨_,_,q,_⟩
     ·rcases g1' with ⟨rfl,_⟩|⟨a',kk,rfl,r1,r2⟩
      ·exact absurd Z hne
      ·have hca:ca.length=a'.length+1:=by rw[ec];simp
       obtain⟨ca',c1,cx,rfl,ec'⟩:=Ke ca (i:=a'.length) (by omega);have hcx:cx=[]:=Ael (by simp at hca;omega);subst hcx;have r1':Kd (Tr u.1 (h+1)) (a'++[]++[]) (ca'++[c1]++[]) l1 P1:=by simpa using r1
       have hka:KO (a'++[kk]):=(KO.app.1 hko).1;obtain⟨x1,m1,x2,X1,Y1,X2,rfl,rfl,f1,f2,f3,f4,f5⟩:=r1'.focus (by simpa using (KO.app.1 hka).1) ec' Z;rcases f3 with ⟨_,_,rfl,rfl⟩|⟨_,_,q,_⟩
       ·obtain⟨v1,V1,va,vb,rfl,vd⟩:=Kd.one.1 f2;refine fin (A:=k::(X1++(c1::V1++u.2.1.page::Q0)++[])) (l:=x1++(m1++(Cn m key).1)++[]) ?_ (by simp) ?_
        ·refine Aft.2 fun a=>?_;simp only[Agf,Agk,Aik];omega
        ·have hm:=Xr w4.gd (i0:=a'.length+1) (a:=a') (b:=[]) (kk:=kk) (ca:=ca') (cb:=[]) (c1:=c1) (c2:=u.2.1.page) (l1:=x1) (l2:=[]) (P1:=X1) (P2:=[]) hat'.liv ec' Z (by simpa using hka)
          (fun p hp=>hrng p (by simp at hp⊢;simp[hp])) (by rw[size_inner];simp only[Aek,Aep,Agm,DQ,C5] at hsz⊢;omega) (by simp) f1 (.inl ⟨Z,Z,Z,Z⟩) va vd b1 b4
          (by have:=va.size;omega) (.inl vb) (fun x hx=>r2 x (by simp[hx])) (fun x hx=>ba kk (by simp) x hx)
          (fun p hp x hx=>(Aej.1 hx).elim (f4 p hp x) (ba p (by simp[hp]) x)) (fun p hp=>by cases hp) ?_
         ·have e2:(ca'++[c1]++[]++[u.2.1.page]++[]:List Int)=ca'++[c1,u.2.1.page]++[]:=by simp
          have e3:(a'++[kk]).length=a'.length+1:=by simp
          rw[e2,e3];exact hm
         ·refine(List.Perm.nodup_iff ?_).1 hnd2;refine Aft.2 fun a=>?_;simp only[Agf,Agk,Aik];omega
       ·cases q
     ·cases q
    ·rcases g3' with ⟨q,_⟩|⟨kk,b',rfl,r1,r2⟩
     ·exact absurd q hbe
     ·obtain⟨cx,c2,cb',rfl,ec'⟩:=Ke cb (i:=0) (by rw[ecb];simp);have hcx:cx=[]:=Ael ec';subst hcx;have r1':Kd (Tr u.1 (h+1)) ([]++[]++b') ([]++[c2]++cb') l2 P2:=by simpa using r1
      have hkb:KO (kk::b'):=(KO.app.1 hko).2.1;obtain⟨x1,m2,x2,X1,Y1,X2,rfl,rfl,f1,f2,f3,f4,f5⟩:=r1'.focus (by simpa using (KO.cons.1 hkb).2.1) Z Z;rcases f1 with ⟨_,_,rfl,rfl⟩|⟨_,_,q,_⟩
      ·obtain⟨v2,V2,va,vb,rfl,vd⟩:=Kd.one.1 f2;refine fin (A:=k::(P1++(u.2.1.page::Q0++c2::V2)++X2)) (l:=l1++((Cn m key).1++m2)++x2) ?_ (by simp) ?_
       ·refine Aft.2 fun a=>?_;simp only[Agf,Agk,Aik];omega
       ·have hm:=Xr w4.gd (i0:=a.length) (a:=a) (b:=b') (kk:=kk) (ca:=ca) (cb:=cb') (c1:=u.2.1.page) (c2:=c2) (l1:=l1) (l2:=x2) (P1:=P1) (P2:=X2) hat'.liv ec (by simp at ecb;omega) (by simpa using hko)
          (fun p hp=>hrng p (by simp at hp⊢;rcases hp with hp|hp<;>simp[hp])) (by rw[size_inner];simp only[Aek,Aep,Agm,DQ,C5] at hsz⊢;omega) (by simp) g1' f3 b1 b4 va vd
          (by have:=va.size;omega) (.inr vb) (fun x hx=>bb kk (by simp) x hx) (fun x hx=>r2 x (by simp[hx]))
          (fun p hp x hx=>(Aej.1 hx).elim (ba p hp x) (fun hx e=>r2 x (by simp[hx]) (FP e ((KO.app.1 hko).2.2 p hp kk (by simp)))))
          (fun p hp x hx=>(Aej.1 hx).elim (bb p (by simp[hp]) x) (f5 p hp x)) ?_
        ·have e2:(ca++[u.2.1.page]++([]++[c2]++cb'):List Int)=ca++[u.2.1.page,c2]++cb':=by simp
         have e3:a++kk::b'=a++[kk]++b':=by simp
         rw[e2,e3];exact hm
        ·refine(List.Perm.nodup_iff ?_).1 hnd2;refine Aft.2 fun a=>?_;simp only[Agf,Agk,Aik];omega
      ·simp at q
   ·rw[if_neg h2];have w5':Out u.1 h 1 u.2.1 (Cn m key).1 P':=by
     rcases w5 with ⟨z1,n0,Q0,b1,b2,rfl,_,b4⟩|w5
     ·refine .inl ⟨z1,n0,Q0,b1,b2,Z,F0.1 (Acl b1.sound ?_),b4⟩;have:¬u.2.1.size<80:=fun q=>h2 ⟨z1,q⟩;omega
     ·exact .inr w5
    rcases UC w4.gd hat' ec hne g1' g3' w5' ba bb hnd2 with ⟨y1,P2',y2,y3⟩|⟨y1,y2⟩
    ·refine .inl ⟨y1,by rw[hisk,w3],.inr ⟨by rw[hisk,w3],P2',(w7.trans y2).mono (by omega),?_⟩⟩;rw[hdel];rcases y3 with ⟨z1,n0,Q0,b1,b2,rfl,_,b4⟩|y3
     ·exact .inl ⟨z1,n0,Q0,b1,b2,Z,Aez _,b4⟩
     ·exact .inr y3
    ·exact .inr ⟨y1,by have:=w4.fr;omega⟩
  ·rw[if_pos (.inl (by rw[w1];decide))];exact .inr ⟨w1,by omega⟩
def UK{key}:∀h,SY key h
 |0=>AaK
 |h+1=>AaG (UK h)
end Go.Gk.Tre
end
section
namespace Go.Gk.Tre
open Go Go.Gk Go.Gk.Dev Go.Gk.Cch Go.Gk.Pgr Go.Gk.Chn Go.Gk.Node
attribute [local irreducible] gwp gws xwp
def Mj(P:Program)(f:FuncId):Prop:=∀(x:Nat) {d s dv pv w cv L}{bt:Nat}{Tt}{r h c k:Int}{key cell},x≤1000000→PgT d s dv pv L→AJ d w key→AJ d cv cell→key.length≤1000→cell.length≤1000→ -1≤k→k≤16384→
 AA P f [pZ bt,vZ k,vZ ((x+1:Nat):Int),w,cv] d (tb bt Tt pv r h c::L) (Ret fun v d' L'=>Le d d'∧∃ua uc L2,v=.tuple #[mdV (B9 s k key cell (x+1)).2.1 ua uc,.bool (B9 s k key cell (x+1)).2.2.1,vZ (B9 s k key cell (x+1)).2.2.2]∧
  AJ d' (.slice ua (B9 s k key cell (x+1)).2.1.key.length uc) (B9 s k key cell (x+1)).2.1.key∧MOk (B9 s k key cell (x+1)).2.1∧L'=tb bt Tt pv r h c::L2∧PgT d' (B9 s k key cell (x+1)).1 dv pv L2)
def Mf(a0 a1 a2 a3 a4 a5 a6 a7:Nat):A0:=⟨116,[(.cell 10 (some 4)),(.tmp 11),(.tmp 12)],(sR (o1 10 (.alo (.agg #[(vZ 0),(vZ 0),nV,(vZ 0)]))<|o1 11 (.mv (.const (.bool false)))<|o1 12 (.mv z0) .done) (sR (om 24 0<|om 25 1<|om 26 2<|oc 27 a0 [24,25,26]<|om 23 27<|oe 28 23 0<|oe 29 23 1<|o1 13 (.alo (.agg #[(.bool false),nV,nV,nV]))<|o0 (.st 4 13 28)<|om 14 29 .done) (.seq (sR (om 30 14<|ob 31 .neq 30 z0 .done) (.cond 31 (sR (o1 32 (.bld [(0,1),(1,1),(2,1),(3,1)] [(vZ 0),(vZ 0),nV,(vZ 0)] [])<|om 33 14<|o0 (.st 4 10 32)<|o1 11 (.mv (.const (.bool false)))<|om 12 33 .done) .ret) .skip)) (sR (o1 35 (.ld (some 4) 13)<|om 36 3<|oc 37 a1 [35,36]<|om 34 37<|oe 38 34 0<|oe 39 34 1<|om 15 38<|om 16 39 .done) (.seq (sR (om 40 2<|ob 41 .eql 40 z1 .done) (.cond 41 (.seq (sR (om 42 16 .done) (.cond 42 (.seq (sR (om 43 0<|oj 44 2 13<|ol 45 44<|om 46 15<|oI 47 1 45 46<|ol 48 47<|oc 49 a2 [43,48]<|om 17 49 .done) (sR (om 50 17<|ob 51 .neq 50 z0 .done) (.cond 51 (sR (o1 52 (.bld [(0,1),(1,1),(2,1),(3,1)] [(vZ 0),(vZ 0),nV,(vZ 0)] [])<|om 53 17<|o0 (.st 4 10 52)<|o1 11 (.mv (.const (.bool false)))<|om 12 53 .done) .ret) .skip))) (rG (oj 54 2 13<|ol 55 54<|om 56 15<|om 57 4<|oI 58 1 55 56<|o0 (.st 1 58 57) .done))) (.reg true (p1 59 (.fld 1 13)<|pl 60 59<|pm 61 15<|pm 62 3<|p1 66 (.fld 2 13)<|pl 67 66<|pm 68 15<|pm 69 4 (.par (o1 70 (.bsl 1 1 [nV] [(0,69)]) .done) (oc 63 a3 [62] (o1 64 (.bsl 1 1 [nV] [(0,63)]) (oc 65 a4 [60,61,64] (p1 72 (.fld 1 13) .done)))) (oc 71 a4 [67,68,70] (.bar (o0 (.st 1 72 65) (p1 73 (.fld 2 13) (o0 (.st 1 73 71) .done)))))))))) (sR (om 75 0<|om 76 1<|o1 77 (.ld (some 4) 13)<|oc 78 a5 [75,76,77]<|om 74 78<|oe 79 74 0<|oe 80 74 1<|o1 18 (.alo (.agg #[(vZ 0),(vZ 0),nV,(vZ 0)]))<|o0 (.st 4 18 79)<|om 19 80 .done) (sR (o1 81 (.ld (some 4) 18)<|om 82 16<|o1 83 (.un .not 82)<|om 84 19<|o0 (.st 4 10 81)<|om 11 83<|om 12 84 .done) .ret))) .skip)) (sR (om 86 0<|oj 87 3 13<|ol 88 87<|om 89 15<|oI 90 1 88 89<|ol 91 90<|om 92 2<|ob 93 .sub 92 z1<|om 94 3<|om 95 4<|oc 96 a6 [86,91,93,94,95]<|om 85 96<|oe 97 85 0<|oe 98 85 1<|oe 99 85 2<|o1 20 (.alo (.agg #[(vZ 0),(vZ 0),nV,(vZ 0)]))<|o0 (.st 4 20 97)<|om 21 98<|om 14 99 .done) (.seq (sR (om 100 14<|ob 101 .neq 100 z0 .done) (.cond 101 (sR (o1 102 (.bld [(0,1),(1,1),(2,1),(3,1)] [(vZ 0),(vZ 0),nV,(vZ 0)] [])<|om 103 14<|o0 (.st 4 10 102)<|o1 11 (.mv (.const (.bool false)))<|om 12 103 .done) .ret) .skip)) (sR (om 105 0<|om 106 1<|o1 107 (.ld (some 4) 13)<|om 108 15<|o1 109 (.ld (some 4) 20)<|oc 110 a7 [105,106,107,108,109]<|om 104 110<|oe 111 104 0<|oe 112 104 1<|o1 22 (.alo (.agg #[(vZ 0),(vZ 0),nV,(vZ 0)]))<|o0 (.st 4 22 111)<|om 14 112 .done) (sR (o1 113 (.ld (some 4) 22)<|om 114 21<|om 115 14<|o0 (.st 4 10 113)<|om 11 114<|om 12 115 .done) .ret)))))))))⟩
set_option maxRecDepth 4000 in
set_option maxHeartbeats 4000000 in
def Wz{P f f1 f2 f3 f4 f5 f6 f8}(hd:I4 P f=some (Mf f1 f2 f3 f4 f5 f6 f f8))(h1:Hk P f1)(h2:HR P f2 findD)(h3:Kk P f3)(h4:DX AH 1 P f4)(h5:Iq RBs P f5)(h6:Hg P f6)(h8:I6 P f8):Mj P f:=by
 intro x;induction x using Nat.strongRecOn with
 |ind x ih=>
 intro d s dv pv w cv L bt Tt r h c k key cell hx hp hw hcv hkl hcl hk0 hk1;obtain⟨bp,rfl⟩:=hp.ptr;have hG:=hp.EL;obtain⟨tc0,hp⟩:=hp;obtain⟨wa,wc,rfl⟩:=hw.val;obtain⟨ca,cc,rfl⟩:=hcv.val;refine AG hd (Aea Z) ?_;show gwp P _ _ _ _ _;apply Ag;apply AE;refine BP (fun b10 T10=>?_);refine Ae Z<|Ab Z<|Aa<|Ad<|Am Z<|Ab Z<|Ab Z<|AY [_] (h1 (k:=k) (x:=((x+1:Nat):Int)) hp) Z Z (fun v d2 L2 hl ⟨_,cs,hk,hv,hi,L3,tc,e1,e2,hn,hp2,htc⟩=>?_);subst e1;subst e2;have hp2:PgT d2 s dv (pZ bp) L3:=⟨tc,hp2⟩
 rw[show AX {s with tc:=tc0} k ((x+1:Nat):Int)=AX s k ((x+1:Nat):Int) from Z] at hn⊢;obtain⟨ka,kc,va,vc,ia,ic,rfl⟩:=hn.cells;(refine AT Z<|Ao Z Z<|Ao Z Z<|BP (fun _ _=>?_));rename_i b13 T13;refine Br 0 Z Z Z Z (Aef _) Z ?_;by_cases he:(AX s k ((x+1:Nat):Int)).2=0
 ·obtain⟨hr,hlf⟩:=HB he;obtain⟨n,hne⟩:∃n,(AX s k ((x+1:Nat):Int)).1=n:=⟨_,Z⟩
  rw[hne] at hn hr hlf⊢;obtain⟨hfit,hk64⟩:=HP hr;obtain⟨i,b,hfd⟩:∃i b,findD n key=(i,b):=⟨_,_,Z⟩
  have hile:i≤n.keys.length:=by have:=KK (n:=n) (key:=key);rw[hfd] at this;exact this
  rw[he];have hw2:=RSl.mono (R:=AH) AL hw hl;have hcv2:=RSl.mono (R:=AH) AL hcv hl;have hlv:n.leaf=true→n.vals.length=n.keys.length:=Im hr;have hli:n.leaf=false→n.kids.length=n.keys.length+1:=Hc hr;have hkd:=Se hr;clear hr;have hnk:=hn;obtain⟨kv,vv,iv,q,r1,r2,r3⟩:=hn;cases q;refine Ab Z<|Aa<|Ag<|Ad<|Ab Z<|AO Z Z<|Aa<|Ar Z (by omega)<|Ak<|Ad<|Bf 0 Z Z Z<|Aj Z<|Iz Z (v:=.tuple #[vZ i,.bool b]) (fun d1 hl1 hk1=>by
   have:=h2 (D4.JD ⟨_,_,_,Z,r1,r2,r3⟩ hl1 (hk1 _ (by simp)) (hk1 _ (by simp)) (hk1 _ (by simp))) (RSl.mono (R:=AH) AL hw2 hl1);rw[hfd] at this;exact this) ?_
  (refine AT Z<|Ao Z Z<|Ao Z Z<|Ab Z<|Ae Z<|Aa ?_);apply Ag;apply Ag;apply AE;(refine Ab Z<|AN Z Z<|Aa ?_);by_cases hx0:x=0
  ·subst hx0;have hvl:=hlv (by rw[hlf];rfl);clear hlv hli hlf;refine Aw Z (by omega) ?_;refine Gw (fun ρ d' L'=>Le d2 d'∧∃cs' n' s' hk' hv' hi' L4 Lr,BG ρ [(0,pZ bt),(1,vZ k),(10,pZ b10),(13,pZ b13),(16,.bool b)]∧D4 d' cs' n' hk' hv' hi'∧Fit n' 600∧PgT d' s' dv (pZ bp) L4∧
    B9 s k key cell (0+1)=((Bk s' k n').1,(Bk s' k n').2.1, !b,(Bk s' k n').2.2)∧Lr.Perm [hk',hv',hi']∧L'=bx b13 T13 cs'::bx b10 T10 [vZ 0,vZ 0,nV,vZ 0]::(Lr++tb bt Tt (pZ bp) r h c::L4)) ?_ ?_
   ·cases b with
    |true=>
     have hilt:i<n.keys.length:=by have:=OM (n:=n) (key:=key) (by rw[hfd]);rw[hfd] at this;exact this
     have hiv:i<n.vals.length:=by omega
     have hI:=W9 (cell:=cell) he hne hfd
     have hgv:n.vals.getD i []=n.vals[i]:=by rw[Aee,Aed hiv];rfl
     rw[hgv] at hI
     obtain⟨b1,T1,l1,c1,cs1,q1,rfl,hcl1,hcs,hle1,⟨u,rfl,hu⟩,hset⟩:=As.at (by omega) r2 hiv
     cases q1
     have c0:=hcs 0 _ Z
     (refine Ad<|Ae Z<|Aa<|Bc Z<|Ag<|Ad<|Am Z<|Ai Z<|Ah Z (Al 0 Z Z)<|Ab Z<|BD _ Z Z Z (by omega)<|Ah Z (Al 3 Z (by assumption)) ?_)
     refine AY [_,_,_,_,_] (h3 hp2 hu) Z Z (fun v d3 L4 hl3 ⟨_,e3,L5,e4,hp5⟩=>?_)
     subst e3;subst e4
     by_cases hz:(BY s n.vals[i]).2=0
     ·rw[if_neg (fun q=>q hz)] at hI
      rw[hz]
      have hrow:=hset [.slice ca cell.length cc] cell Z ⟨_,Z,hcv2⟩
      (refine Ab Z<|Aa<|Ad<|Ab Z<|AO Z Z<|Aa<|Ar Z (by omega)<|Ak<|AE<|Ai Z<|Ah Z (Al 0 Z Z)<|Ab Z<|Aj Z<|BD _ Z Z Z (by omega) ?_)
      refine A7 3 (patch l1 (i*1) [.slice ca cell.length cc]) Z Z Z Z (by omega) Z Z ?_
      (apply Aa)
      refine⟨hl3,_,{n with vals:=n.vals.set i cell},_,hk,_,hi,L5,[_,_,_],⟨Z,Z,Z,Z,Z,trivial⟩,⟨_,_,_,Z,r1.DI hl3,hrow.DI hl3,r3.JF hl3⟩,⟨?_,?_,?_,hfit.kl,fun y hy=>?_⟩,hp5,hI,Afr _,?_⟩
      ·have:=hfit.k;show n.keys.length≤600;omega
      ·have:=hfit.v;show(n.vals.set i cell).length≤600;rw[Aff];omega
      ·have:=hfit.i;show n.kids.length≤600;omega
      ·rcases Rm hy with rfl|hy
       ·exact hcl
       ·exact hfit.vl y hy
      ·rfl
     ·rw[if_pos hz] at hI
      rw[hI]
      (refine Ab Z<|Aa<|Ad<|Ab Z<|AO Z Z<|Aa<|Aw Z (by omega)<|Ad<|BJ Z<|Ab Z ?_)
      refine Br 1 Z Z Z Z (Aef _) Z ?_
      (refine Ae Z<|Ab Z<|Aa<|Ap ?_)
      exact A4 [mdV Cq none 0,.bool false,vZ (BY s n.vals[i]).2] ⟨AW 1 Z Z Z,Aq Z,Aq Z,trivial⟩ (d':=d3) (L':=tb bt Tt (pZ bp) r h c::L5) (Vs.drop (.cons _ (.cons _ (.cons _ (.cons _ (.cons _ (Aeb _))))))) ⟨hl.trans hl3,none,0,L5,Z,RSl.nil,Eu,Z,hp5⟩
    |false=>
     have hI:=WI (cell:=cell) he hne hfd
     have hfk:=hfit.k
     have hfv:=hfit.v
     (refine Ad<|Ae Z<|Aa<|AS Z ?_)
     refine Bw [_,_] (hk::hv::hi::tb bt Tt (pZ bp) r h c::L3) Z ?_
     (refine Ai Z<|Ah Z (Al 0 Z Z)<|Ab Z<|Aj Z<|Ai Z<|Ah Z (Al 0 Z Z)<|Ab Z<|Aj Z ?_)
     refine FQ (α:=Nat×TypeId) (β:=Option Addr×Nat×Ac) [(0,pZ bt),(1,vZ k),(10,pZ b10),(13,pZ b13),(16,.bool false),(67,.slice va n.vals.length vc),(68,vZ i)]
      (fun x=>[(70,.slice (some ⟨x.1,0,none⟩) 1 1)]) (fun x d L=>L=[bx x.1 x.2 [.slice ca cell.length cc]]) (fun y=>[(65,.slice y.1 (n.keys.length+1) y.2.1),(72,.pointer (some ⟨b13,1,none⟩))])
      (fun y d' M=>As 1 RBs d' (.slice y.1 (n.keys.length+1) y.2.1) (Cb n.keys i key) y.2.2∧M=y.2.2::hv::hi::tb bt Tt (pZ bp) r h c::L3) [] _ Z
      (fun x d d' M hl h=>h) (fun y d d' M hl h=>⟨h.1.DI hl,h.2⟩) (fun x=>Z) (fun y=>Z) Z ⟨Z,Z,Z,Z,Z,Z,Z,trivial⟩ ?_ ?_ ?_
     ·refine Dq (v0:=.slice ca cell.length cc) Z Z (fun b70 T70=>?_)
      (apply AZ)
      exact⟨_,Z,(b70,T70),⟨Z,trivial⟩,Z⟩
     ·refine Bl Z (h4 hw2 (by omega)) (fun v d3 L3' _ ⟨e0,hc,e1,hgc⟩=>?_)
      subst e0;subst e1
      obtain⟨ga0,gc0,rfl⟩:=hgc.val
      refine Ih (fun d4 hl4 hg4=>?_)
      have hkey4:AJ d4 (.slice ga0 key.length gc0) key:=As.rsl (R:=AH) (sz:=1) hgc AL (by omega) hl4 hg4
      refine Dq (v0:=.slice ga0 key.length gc0) Z Z (fun b64 T64=>?_)
      refine DY (A:=[_,_]) Z Z (h5 (r1.DI hl4) hile (by omega) ⟨_,Z,hkey4⟩ E6) (fun v d5 L5 hl5 ⟨e2,h',e3,hg⟩=>?_)
      subst e2;subst e3
      have hgl:=Fy (y:=key) hile
      obtain⟨ga,gc,rfl⟩:=hg.val
      rw[hgl] at hg⊢
      (refine Ai Z<|AZ ?_)
      exact⟨_,Z,(ga,gc,h'),⟨Z,Z,trivial⟩,hg,Z⟩
     ·rintro⟨b70,T70⟩ ⟨ga,gc,h65⟩ ρ2 d3 M1 M2 hl3 hM1 ⟨hg65,hM2⟩
      subst hM1;subst hM2
      simp only at hg65⊢
      refine Ds (A:=[bx b70 T70 [.slice ca cell.length cc],hv]) (h5 (r2.DI hl3) (show i≤n.vals.length by omega) (by omega) ⟨_,Z,RSl.mono (R:=AH) AL hcv2 hl3⟩ E6) (Aem _ (Afj (l₁:=[_]))) Z (fun v d4 L4 hl4 ⟨e0,h71,e1,hg71⟩=>?_)
      subst e0;subst e1
      obtain⟨za,zc,rfl⟩:=hg71.val
      refine⟨_,_,Vs.refl _ _,?_⟩
      apply Cd
      refine A7 0 [.bool n.leaf,.slice ga (n.keys.length+1) gc,.slice va n.vals.length vc,.slice ia n.kids.length ic] Z Z Z Z (Aea Z) Z Z ?_
      (apply Ai;rfl)
      refine A7 0 [.bool n.leaf,.slice ga (n.keys.length+1) gc,.slice za (Cb n.vals i cell).length zc,.slice ia n.kids.length ic] Z Z Z Z (Aea Z) Z Z ?_
      (apply Aa)
      refine⟨hl3,_,{n with keys:=Cb n.keys i key,vals:=Cb n.vals i cell},s,h65,h71,hi,L3,[_,_,_],⟨Z,Z,Z,Z,Z,trivial⟩,⟨_,_,_,Z,hg65,hg71,r3.JF hl3⟩,⟨?_,?_,?_,fun y hy=>?_,fun y hy=>?_⟩,hp2.mono hl3,hI,Afa _ _ _,?_⟩
      ·show(Cb n.keys i key).length≤600
       rw[Fy hile];omega
      ·show(Cb n.vals i cell).length≤600
       rw[Fy (by omega)];omega
      ·have:=hfit.i;show n.kids.length≤600;omega
      ·rcases K7 hy with rfl|hy
       ·exact hkl
       ·exact hfit.kl y hy
      ·rcases K7 hy with rfl|hy
       ·exact hcl
       ·exact hfit.vl y hy
      ·rfl
   ·rintro ρ d' L' ⟨hle,cs',n',s',hk',hv',hi',L4,Lr,hsl,hn',hfit',hp',hI,hpm,hLL⟩;subst hLL;rw[hI];obtain⟨ka',kc',va',vc',ia',ic',rfl⟩:=hn'.cells;refine C1 _ hsl ?_;obtain⟨d4,hl4,v4,hn4⟩:=F3 hn';have hmo:=Hv hp'.EL (n:=n') hk0 hk1 hfit'.kl;refine Ad<|Am Z<|Ab Z<|Bf 0 Z Z Z<|BS _ _ (Vs.out [_,_] _ hpm v4) ?_;refine AY [_,_] (h6 (k:=k) (hp'.mono hl4) hn4 (hfit'.small (by omega))) Z Z (fun v d5 L5 hl5 ⟨_,ua,uc,L6,e5,hk5,e6,hp6⟩=>?_);subst e5;subst e6;(refine AT Z<|Ao Z Z<|Ao Z Z<|BP (fun _ _=>?_));rename_i b18 T18;refine Br 0 Z Z Z Z (Aef _) Z ?_;refine Ab Z<|Aa<|Ad<|Bf 0 Z Z Z<|Ae Z<|Bn Z<|Ab Z<|Br 2 Z Z Z Z (Aef _) Z ?_;(refine Ae Z<|Ab Z<|Aa<|Ap ?_);exact A4 [mdV (Bk s' k n').2.1 ua uc,.bool (!b),vZ (Bk s' k n').2.2] ⟨AW 2 Z Z Z,Aq Z,Aq Z,trivial⟩ (d':=d5) (L':=tb bt Tt (pZ bp) r h c::L6) (Vs.drop (.cons _ (.cons _ (.cons _ (Aeb _))))) ⟨((hl.trans hle).trans hl4).trans hl5,ua,uc,L6,Z,hk5,hmo,Z,hp6⟩
  ·obtain⟨x,rfl⟩:∃y,x=y+1:=⟨x - 1,by omega⟩
   have hil:=hli (by rw[hlf];simp;omega);clear hlv hli hlf;have hI:=QH (key:=key) (cell:=cell) he hne hfd;have hii:i<n.kids.length:=by omega
   have hgk:n.kids.getD i 0=n.kids[i]:=by rw[Aee,Aed hii];rfl
   rw[hgk] at hI;have hkb:=hkd _ (Aey hii);have hnk0:=hnk;obtain⟨b1,T1,l1,c1,cs1,q1,rfl,hcl1,hcs,hle1,⟨rfl,hb1,hb2⟩, -⟩:=As.at (by omega) r3 hii;cases q1;have c0:=hcs 0 _ Z;refine Ar Z (by omega) ?_;refine Ak<|Ad<|Am Z<|Ai Z<|Ah Z (Al 0 Z Z)<|Ab Z<|BD _ Z Z Z (by omega)<|Ah Z (Al 4 Z (by assumption))<|Ab Z<|CV Z Z (by omega) (by omega)<|Aj Z<|Aj Z<|EN (g:=93) (v:=vZ ((x+1:Nat):Int)) (congrArg (Value.int .i64) (by push_cast;omega)) ?_;skip;refine AY [_,_,_,_,_] (ih x (Nat.lt_succ_self x) (k:=n.kids[i]) (by omega) hp2 hw2 hcv2 hkl hcl (by omega) (by omega)) Z Z (fun v d3 L4 hl3 ⟨_,ua,uc,L5,e3,hk3,hm3,e4,hp5⟩=>?_);subst e3;subst e4;generalize B9 s n.kids[i] key cell (x+1)=U at hI hk3 hm3 hp5;(refine AT Z<|Ao Z Z<|Ao Z Z<|Ao Z Z<|BP (fun _ _=>?_));rename_i b20 T20;refine Br 0 Z Z Z Z (Aef _) Z ?_;by_cases hz:U.2.2.2=0
   ·rw[if_neg (fun q=>q hz)] at hI;rw[hI,hz];have hmo:=R8 hp5.EL (n:=n) (i:=i) hk0 hk1 hfit.kl hm3;refine Ae Z<|Ab Z<|Aa<|Ag<|Ad<|Ab Z<|AO Z Z<|Aa<|Ar Z (by omega)<|Ak<|Ad<|Am Z<|Ab Z<|Bf 1 Z Z Z<|Ab Z<|Bf 0 Z Z Z<|AY [_,_,_] (h8 (k:=k) (n:=n) (i:=i) (m:=U.2.1) hp5 (hnk0.mono hl3) ⟨by have:=hfit.k;omega,by have:=hfit.v;omega,by have:=hfit.i;omega,hfit.kl,hfit.vl⟩ hii (fun _=>hile) hm3 hk3) Z Z (fun v d6 L6 hl6 ⟨_,ua',uc',L7,e6,hk6,e7,hp7⟩=>?_);subst e6;subst e7;(refine AT Z<|Ao Z Z<|Ao Z Z<|BP (fun _ _=>?_));rename_i b22 T22;refine Br 0 Z Z Z Z (Aef _) Z ?_;refine Ab Z<|Aa<|Ad<|Bf 0 Z Z Z<|Ae Z<|Ab Z<|Br 3 Z Z Z Z (Aef _) Z ?_;(refine Ae Z<|Ab Z<|Aa<|Ap ?_);exact A4 [mdV (Ct U.1 k n i U.2.1).2.1 ua' uc',.bool U.2.2.1,vZ (Ct U.1 k n i U.2.1).2.2] ⟨AW 3 Z Z Z,Aq Z,Aq Z,trivial⟩ (d':=d6) (L':=tb bt Tt (pZ bp) r h c::L7) (Vs.drop (.cons _ (.cons _ (.cons _ (.cons _ (Aeb _)))))) ⟨(hl.trans hl3).trans hl6,ua',uc',L7,Z,hk6,hmo,Z,hp7⟩
   ·rw[if_pos hz] at hI;rw[hI];refine Ae Z<|Ab Z<|Aa<|Ag<|Ad<|Ab Z<|AO Z Z<|Aa<|Aw Z (by omega)<|Ad<|BJ Z<|Ab Z<|Br 2 Z Z Z Z (Aef _) Z ?_;(refine Ae Z<|Ab Z<|Aa<|Ap ?_);exact A4 [mdV Cq none 0,.bool false,vZ U.2.2.2] ⟨AW 2 Z Z Z,Aq Z,Aq Z,trivial⟩ (d':=d3) (L':=tb bt Tt (pZ bp) r h c::L5) (Vs.drop (.cons _ (.cons _ (.cons _ (.cons _ (.cons _ (.cons _ (Aeb _)))))))) ⟨hl.trans hl3,none,0,L5,Z,RSl.nil,Eu,Z,hp5⟩
 ·rw[Aal he];refine Ab Z<|Aa<|Ag<|Ad<|Ab Z<|AO Z Z<|Aa<|Aw Z (by omega)<|Ad<|BJ Z<|Ab Z<|Br 1 Z Z Z Z (Aef _) Z ?_;(refine Ae Z<|Ab Z<|Aa<|Ap ?_);exact A4 [mdV Cq none 0,.bool false,vZ (AX s k ((x+1:Nat):Int)).2] ⟨AW 1 Z Z Z,Aq Z,Aq Z,trivial⟩ (d':=d2) (L':=tb bt Tt (pZ bp) r h c::L3) (Vs.drop (.cons _ (.cons _ (.cons _ (.cons _ (.cons _ (Aeb _))))))) ⟨hl,none,0,L3,Z,RSl.nil,Eu,Z,hp2⟩
end Go.Gk.Tre
end
section
namespace Go.Gk.Tre
open Go Go.Gk Go.Gk.Dev Go.Gk.Cch Go.Gk.Pgr Go.Gk.Chn Go.Gk.Node
def Vk:∀(l:List Int) (s:PD),Pgr.AQ s (DM s l)
 |[],s=>Pgr.AQ.refl s
 |k::l,s=>(Pgr.AQ.drop s k).trans (Vk l _)
def OQ:∀(n:Nat) (s:PD) (l:List Int),Pgr.AQ s (B0 s l n).1
 |0,s,l=>Pgr.AQ.refl s
 |n+1,s,l=>by
  rw[B0];split
  ·exact(Pgr.AQ.AV s).trans (OQ n _ _)
  ·exact Pgr.AQ.AV s
def WM{s}{l:List Int}{b}:∀i,Pgr.AQ s (Chn.CX s l b i)
 |0=>Pgr.AQ.refl s
 |i+1=>(WM i).trans (Pgr.AQ.put _ _ _)
def AbS(s:PD)(b:List UInt8):Pgr.AQ s (BK s b).1:=by
 have h:Pgr.AQ s (Chn.Bu s (AP b.length)).1:=by
  unfold Chn.Bu;split
  ·exact OQ _ _ _
  ·exact(OQ _ _ _).trans (Vk _ _)
 unfold BK;dsimp only;split
 ·exact h.trans (WM _)
 ·exact h
def Uk:∀(l:List Int) (s:PD),Pgr.AQ s (DP s l).1
 |[],s=>Pgr.AQ.refl s
 |k::l,s=>by
  rw[DP];split
  ·exact(Pgr.AQ.drop s k).trans (Uk l _)
  ·exact Pgr.AQ.drop s k
def AaR(s:PD)(k n:Int):Pgr.AQ s (D8 s k n).1:=by
 unfold D8;split
 ·exact Uk _ _
 ·exact Pgr.AQ.refl s
def Nr(s:PD)(c:List UInt8):Pgr.AQ s (BY s c).1:=by
 unfold BY;split
 ·exact Pgr.AQ.refl s
 ·split
  ·exact AaR _ _ _
  ·exact Pgr.AQ.refl s
def NT(s:PD)(v:List UInt8):Pgr.AQ s (BR s v).1:=by
 unfold BR;split
 ·exact Pgr.AQ.refl s
 ·exact AbS s v
def IM(s:PD)(k:Int)(n:AK):Pgr.AQ s (Bb s k n).1:=by
 unfold Bb;split
 ·split
  ·exact Pgr.AQ.put _ _ _
  ·split
   ·exact Pgr.AQ.AV s
   ·split
    ·split
     ·exact(Pgr.AQ.AV s).trans (Pgr.AQ.drop _ _)
     ·exact((Pgr.AQ.AV s).trans (Pgr.AQ.drop _ _)).trans (Pgr.AQ.put _ _ _)
    ·exact(Pgr.AQ.AV s).trans (Pgr.AQ.put _ _ _)
 ·exact Pgr.AQ.refl s
def Fg(s:PD)(k:Int)(n:AK):Pgr.AQ s (Bk s k n).1:=by
 unfold Bk;split
 ·exact IM _ _ _
 ·split
  ·show Pgr.AQ s (if (Bb s k (A5 n)).2.2=0 then _ else _:PD×MdD×Int).1;split
   ·exact(IM _ _ _).trans (IM _ _ _)
   ·exact IM _ _ _
  ·exact Pgr.AQ.refl s
def Tx(s:PD)(k:Int)(n:AK)(i:Nat)(m:MdD):Pgr.AQ s (Ct s k n i m).1:=by
 unfold Ct;split
 ·exact Pgr.AQ.refl s
 ·split
  ·exact Fg _ _ _
  ·exact Fg _ _ _
def QE(key cell:List UInt8):∀(h:Nat) (s:PD) (k:Int),Pgr.AQ s (B9 s k key cell h).1
 |0,s,k=>Pgr.AQ.refl s
 |h+1,s,k=>by
  rw[B9];dsimp only;split
  ·exact Pgr.AQ.refl s
  ·split
   ·split
    ·split
     ·exact Nr _ _
     ·exact(Nr _ _).trans (Fg _ _ _)
    ·exact Fg _ _ _
   ·split
    ·exact QE key cell h _ _
    ·exact(QE key cell h _ _).trans (Tx _ _ _ _ _)
def AbM(s:PD)(k:Int)(n:AK)(i:Nat):Pgr.AQ s (DW s k n i).1:=by
 unfold DW;split
 ·exact Pgr.AQ.refl s
 ·dsimp only;generalize (if i=n.keys.length then i - 1 else i)=j;split
  ·exact Pgr.AQ.refl s
  ·split
   ·exact Pgr.AQ.refl s
   ·split
    ·exact Pgr.AQ.refl s
    ·split
     ·exact Fg _ _ _
     ·split
      ·exact(Fg _ _ _).trans (Pgr.AQ.drop _ _)
      ·split
       ·exact((Fg _ _ _).trans (Pgr.AQ.drop _ _)).trans (Fg _ _ _)
       ·exact((Fg _ _ _).trans (Pgr.AQ.drop _ _)).trans (Fg _ _ _)
def PI(key:List UInt8):∀(h:Nat) (s:PD) (k:Int),Pgr.AQ s (B3 s k key h).1
 |0,s,k=>Pgr.AQ.refl s
 |h+1,s,k=>by
  rw[B3];dsimp only;split
  ·exact Pgr.AQ.refl s
  ·split
   ·split
    ·split
     ·exact Nr _ _
     ·exact(Nr _ _).trans (Fg _ _ _)
    ·exact Pgr.AQ.refl s
   ·split
    ·exact PI key h _ _
    ·have h0:=PI key h s ((AX s k ((h+1:Nat):Int)).1.kids.getD (findD (AX s k ((h+1:Nat):Int)).1 key).1 0);split
     ·exact h0.trans (AbM _ _ _ _)
     ·exact h0.trans (Tx _ _ _ _ _)
def Wn(t:TD)(m:MdD):Pgr.AQ t.s (CU t m).1.s:=by
 unfold CU;split
 ·exact Pgr.AQ.refl _
 ·exact IM _ _ _
def ZM(t:TD):Pgr.AQ t.s (DZ t).1.s:=by
 unfold DZ;dsimp only;split
 ·exact Pgr.AQ.refl _
 ·split
  ·exact Pgr.AQ.drop _ _
  ·exact Pgr.AQ.drop _ _
def Y8(t:TD)(key value:List UInt8):Pgr.AQ t.s (CT t key value).1.s:=by
 unfold CT;dsimp only;split
 ·exact NT _ _
 ·split
  ·exact(NT _ _).trans (IM _ _ _)
  ·split
   ·exact(NT _ _).trans (QE _ _ _ _ _)
   ·exact((NT _ _).trans (QE _ _ _ _ _)).trans (Wn {t with s:=_,count:=_} _)
def YQ(t:TD)(key:List UInt8):Pgr.AQ t.s (BX t key).1.s:=by
 unfold BX;split
 ·exact Pgr.AQ.refl _
 ·dsimp only;split
  ·exact PI _ _ _ _
  ·have h:=(PI key t.height t.s t.root).trans (Wn {t with s:=(B3 t.s t.root key t.height).1,count:=t.count - 1} (B3 t.s t.root key t.height).2.1);split
   ·exact h
   ·exact h.trans (ZM _)
end Go.Gk.Tre
end
section
namespace Go.Gk.Tre
open Go Go.Gk Go.Gk.Dev Go.Gk.Cch Go.Gk.Pgr Go.Gk.Chn Go.Gk.Node
attribute [local irreducible] gwp gws xwp
variable{s:PD}{root:Int}
structure QS (t:TD):Prop where
 r0: -1≤t.root
 r1:t.root≤16384
 h:t.height≤900000
 c:t.count≤900000
def AaZ(s:PD)(v:List UInt8):(BR s v).2.1.length≤16:=by
 unfold BR;split
 ·rename_i h;simp;omega
 ·simp[FM]
def N6(a0 a1 a2 a3 a4:Nat):A0:=⟨76,[(.tmp 3)],(sR (o1 3 (.mv z0) .done) (sR (ol 11 0<|ol 12 1<|oc 13 a0 [11,12]<|om 10 13<|oe 14 10 0<|oe 15 10 1<|om 4 14<|om 5 15 .done) (.seq (sR (om 16 5<|ob 17 .neq 16 z0 .done) (.cond 17 (sR (om 18 5<|om 3 18 .done) .ret) .skip)) (.seq (sR (ol 19 0<|o1 20 (.nilc 19)<|oj 21 2 20<|ol 22 21<|ob 23 .eql 22 z0 .done) (.cond 23 (sR (ol 25 0<|ol 26 2<|o1 27 (.bsl 1 1 [nV] [(0,26)])<|om 28 4<|o1 29 (.bsl 1 1 [nV] [(0,28)])<|o1 30 (.bld [(0,1),(1,1),(2,1),(3,1)] [(.bool false),nV,nV,nV] [(0,(.const (.bool true))),(1,27),(2,29)])<|oc 31 a1 [25,(kZ (-1)),30]<|om 24 31<|oe 32 24 0<|oe 33 24 1<|om 6 32<|om 7 33 .done) (sR (ol 34 0<|ol 35 0<|ol 36 0<|om 37 6<|o1 38 (.nilc 34)<|oj 39 1 38<|o0 (.st 1 39 37)<|o1 40 (.nilc 35)<|oj 41 2 40<|o0 (.st 1 41 z1)<|o1 42 (.nilc 36)<|oj 43 3 42<|o0 (.st 1 43 z1) .done) (sR (om 44 7<|om 3 44 .done) .ret))) .skip)) (.seq (.reg true (pl 46 0<|pl 47 0<|p1 48 (.nilc 47)<|p1 49 (.fld 1 48)<|pl 50 49<|pl 51 0<|p1 52 (.nilc 51)<|p1 53 (.fld 2 52)<|pl 54 53<|pl 55 2<|pm 56 4 (.par (o1 8 (.alo (.agg #[(vZ 0),(vZ 0),nV,(vZ 0)])) .done) (oc 57 a2 [46,50,54,55,56] (pm 45 57 (p1 58 (.ext 45 0) (p1 59 (.ext 45 1) (p1 60 (.ext 45 2) .done))))) (o0 (.st 4 8 58) (pm 9 59 (pm 5 60 .done)))))) (.seq (sR (om 61 5<|ob 62 .neq 61 z0 .done) (.cond 62 (sR (om 63 5<|om 3 63 .done) .ret) .skip)) (.seq (.reg true (pl 64 0<|p1 65 (.nilc 64)<|p1 66 (.fld 3 65)<|pl 67 66<|pm 68 9<|oc 69 a3 [68]<|p1 70 (.bin .add 67 69)<|p1 71 (.nilc 64)<|p1 72 (.fld 3 71) (.bar (o0 (.st 1 72 70) .done)))) (sR (ol 73 0<|o1 74 (.ld (some 4) 8)<|oc 75 a4 [73,74]<|om 3 75 .done) .ret))))))))⟩
def Df(t:TD)(key value:List UInt8):TD×Int:=
 if BZ key≠0 then(t,BZ key) else if 16384<value.length then(t,3) else(Cp t (CT t key value).1 (CT t key value).2,(CT t key value).2)
def QG(a0 a1 a2:Nat):A0:=⟨20,[(.tmp 6)],(sR (o1 3 (.box 0)<|o1 4 (.box 1)<|o1 5 (.box 2)<|o1 6 (.mv z0) .done) (.seq (sR (ol 8 3<|ol 9 4<|oc 10 a0 [8,9]<|om 7 10 .done) (sR (om 11 7<|ob 12 .neq 11 z0 .done) (.cond 12 (sR (om 13 7<|om 6 13 .done) .ret) .skip))) (.seq (sR (ol 14 5<|oL 15 14<|ob 16 .gtr 15 (kZ 16384) .done) (.cond 16 (sR (o1 6 (.mv (kZ 3)) .done) .ret) .skip)) (sR (ol 17 3<|o1 18 (.mkf (.func a1) [] [3,5,4])<|oc 19 a2 [17,18]<|om 6 19 .done) .ret))))⟩
def Ks(P:Program)(f:FuncId):Prop:=∀{d}{t:TD}{bt pb:Nat}{Tt L},Du P f [pZ bt] d (tbD bt Tt (pZ pb) t::L) (vZ t.root)
def Pl(a0:Nat):A0:=⟨9,[(.tmp 2)],(sR (o1 2 (.mv z0) .done) (.seq (sR (om 3 0<|oc 4 a0 [3] .done) (.cond 4 (sR (o1 2 (.mv (kZ (-1))) .done) .ret) .skip)) (sR (om 5 0<|o1 6 (.nilc 5)<|oj 7 1 6<|ol 8 7<|om 2 8 .done) .ret)))⟩
def TC{P f f1}(hd:dec P f=some (Pl f1))(h1:Hj P f1):Ks P f:=by
 intro d t bt pb Tt L;refine AG hd (Aea Z) ?_;show gwp P _ _ _ _ _;refine Ad<|Ab Z<|Aa<|Ag<|Ad<|Am Z<|B7 [] (h1 (L:=L)) Z Z ?_;(refine Aa<|AS Z<|Ak<|Ad<|Am Z<|AF Z<|Ai Z<|Ah Z (Al 0 Z Z)<|Ab Z<|Aa<|Ap ?_);exact BO Z (Aeb _) ⟨Z,Z,Z⟩
def F2(P:Program)(f:FuncId):Prop:=∀{d}{t:TD}{bt pb:Nat}{Tt L},Du P f [pZ bt] d (tbD bt Tt (pZ pb) t::L) (vZ t.height)
def M4(a0:Nat):A0:=⟨9,[(.tmp 2)],(sR (o1 2 (.mv z0) .done) (.seq (sR (om 3 0<|oc 4 a0 [3] .done) (.cond 4 (sR (o1 2 (.mv z0) .done) .ret) .skip)) (sR (om 5 0<|o1 6 (.nilc 5)<|oj 7 2 6<|ol 8 7<|om 2 8 .done) .ret)))⟩
def Qb{P f f1}(hd:dec P f=some (M4 f1))(h1:Hj P f1):F2 P f:=by
 intro d t bt pb Tt L;refine AG hd (Aea Z) ?_;show gwp P _ _ _ _ _;refine Ad<|Ab Z<|Aa<|Ag<|Ad<|Am Z<|B7 [] (h1 (L:=L)) Z Z ?_;(refine Aa<|AS Z<|Ak<|Ad<|Am Z<|AF Z<|Ai Z<|Ah Z (Al 0 Z Z)<|Ab Z<|Aa<|Ap ?_);exact BO Z (Aeb _) ⟨Z,Z,Z⟩
def Ht(P:Program)(f:FuncId):Prop:=∀{d}{t:TD}{bt pb:Nat}{Tt L},Du P f [pZ bt] d (tbD bt Tt (pZ pb) t::L) (vZ t.count)
def NX(a0:Nat):A0:=⟨9,[(.tmp 2)],(sR (o1 2 (.mv z0) .done) (.seq (sR (om 3 0<|oc 4 a0 [3] .done) (.cond 4 (sR (o1 2 (.mv z0) .done) .ret) .skip)) (sR (om 5 0<|o1 6 (.nilc 5)<|oj 7 3 6<|ol 8 7<|om 2 8 .done) .ret)))⟩
def RP{P f f1}(hd:dec P f=some (NX f1))(h1:Hj P f1):Ht P f:=by
 intro d t bt pb Tt L;refine AG hd (Aea Z) ?_;show gwp P _ _ _ _ _;refine Ad<|Ab Z<|Aa<|Ag<|Ad<|Am Z<|B7 [] (h1 (L:=L)) Z Z ?_;(refine Aa<|AS Z<|Ak<|Ad<|Am Z<|AF Z<|Ai Z<|Ah Z (Al 0 Z Z)<|Ab Z<|Aa<|Ap ?_);exact BO Z (Aeb _) ⟨Z,Z,Z⟩
def WH{n:Nat}{key}:∀(x:Nat) (k:Int),E4 (wtc s n) key k x=E4 s key k x
 |0,_=>rfl
 |x+1,k=>by
  rw[E4,E4,show AX (wtc s n) k ((x+1:Nat):Int)=AX s k ((x+1:Nat):Int) from Z];simp only[NF,WH x]
def AaW{n:Nat}{h c:Nat}{key}:Ex ⟨wtc s n,root,h,c⟩ key=Ex ⟨s,root,h,c⟩ key:=by
 unfold Ex;simp only[WH]
def Adb{P f d}{h c:Nat}{dv pv kv L}{bt:Nat}{Tt key}(hf:MX P f)(hp:PgT d s dv pv L)(hk:AJ d kv key)(hh:h≤1000000):
  AA P f [pZ bt,kv] d (tb bt Tt pv root h c::L) (Ret fun v d' L'=>Le d d'∧∃u L2,v=.tuple #[u,.bool (Ex ⟨s,root,h,c⟩ key).2.1,vZ (Ex ⟨s,root,h,c⟩ key).2.2]∧AJ d' u (Ex ⟨s,root,h,c⟩ key).1∧L'=tb bt Tt pv root h c::L2∧PgT d' s dv pv L2):=by
 obtain⟨n,hp⟩:=hp
 refine AA.DU (hf (t:=⟨wtc s n,root,h,c⟩) (bt:=bt) (Tt:=Tt) hp hk hh) (fun r d' L' _ ⟨h0,u,L2,tc,h1,h2,h3,h4,_⟩=>⟨d',L',Vs.refl _ _,?_⟩)
 rw[AaW] at h1 h2
 exact⟨h0,u,L2,h1,h2,h3,tc,h4⟩
end Go.Gk.Tre
end
section
namespace Go.Gk.Tre
open Go Go.Gk Go.Gk.Dev Go.Gk.Cch Go.Gk.Pgr Go.Gk.Chn Go.Gk.Node
variable{t:TD}{l:List KV}{P:List Int}
structure Tok (t:TD) (l:List KV) (P:List Int):Prop where
 gd:Pgr.Good t.s
 nd:P.Nodup
 ct:t.count=l.length
 tr:(t.height=0∧t.root= -1∧l=[]∧P=[])∨∃h,t.height=h+1∧Tr t.s (h+1) t.root l P
def Tok.live(h:Tok t l P):∀p∈P,Bs t.s p:=by
 rcases h.tr with ⟨_,_,_,rfl⟩|⟨x,_,q⟩
 ·exact fun p hp=>by cases hp
 ·exact q.live
def Mv.id{s}(hG:Pgr.Good s)(h1:∀p∈P,Bs s p)(h2:P.Nodup):Mv s s P P 0:=by
 simpa using (Mv.refl hG).frame h1 h2 (fun p _ q=>by cases q)
def Tok.id(h:Tok t l P):Mv t.s t.s P P 0:=Mv.id h.gd h.live h.nd
def Uh{s}(hG:Pgr.Good s){h:Nat}{md:MdD}(ho:0≤md.other)(o:Out s h 0 md l P)(hnd:P.Nodup):
  ((Bb s (-1) ⟨false,[md.key],[],[md.page,md.other]⟩).2.2=0∧∃P',Mv s (Bb s (-1) ⟨false,[md.key],[],[md.page,md.other]⟩).1 P P' 1∧
   Tr (Bb s (-1) ⟨false,[md.key],[],[md.page,md.other]⟩).1 (h+1+1) (Bb s (-1) ⟨false,[md.key],[],[md.page,md.other]⟩).2.1 l P'∧
   At (Bb s (-1) ⟨false,[md.key],[],[md.page,md.other]⟩).1 (Bb s (-1) ⟨false,[md.key],[],[md.page,md.other]⟩).2.1 ⟨false,[md.key],[],[md.page,md.other]⟩)∨
  ((Bb s (-1) ⟨false,[md.key],[],[md.page,md.other]⟩).2.2=190∧s.free<1):=by
 have hlv:=o.live
 rcases o with ⟨q,_⟩|⟨_,_,l1,l2,P1,P2,rfl,rfl,g1,g2,g3,g4,g5,g6⟩
 ·omega
 ·obtain⟨v1,_,va,_⟩:=id g1
  obtain⟨v2,_,vb,_⟩:=id g2
  have hs:Ba ⟨false,[md.key],[],[md.page,md.other]⟩=true:=by
   refine Ch.2 ⟨KO.cons.2 ⟨⟨g5,g6⟩,KO.nil,fun _ h=>by cases h⟩,Z,fun c hc=>?_⟩;rcases Aex.1 hc with rfl|hc
   ·exact D9 hG va.liv
   ·rw[Aew.1 hc];exact D9 hG vb.liv
  have hr:Bp ⟨false,[md.key],[],[md.page,md.other]⟩=true:=by
   simp only[Bp,hs,Ahr,decide_eq_true_eq];rw[size_inner];simp only[C5,Aep,Agm];omega
  rcases NB hG hr with ⟨h1,h2,h3⟩|h1
  ·have hfr:=h2.frame hlv hnd (fun p _ q=>by cases q)
   have hsm:=h2.same hlv (fun p _ q=>by cases q)
   refine .inl ⟨h1,_,hfr,⟨_,_,h3,by simp,Z,?_⟩,h3⟩
   rw[decide_eq_false (Ago _)]
   exact .mki Z (Kd.cons.2 ⟨l1,l2,P1,P2,Z,Z,g1.stay (hsm.sub (fun p hp=>Afc _ hp)),g3,g4,Kd.one.2 (g2.stay (hsm.sub (fun p hp=>Afe _ hp)))⟩)
  ·exact .inr h1
def Aaf(h:Tok t l P){key v}(hk:1≤key.length∧key.length≤64)(hv:v.length≤16384):
  ((CT t key v).2=0∧∃P',Tok (CT t key v).1 (Em l key v) P'∧Mv t.s (CT t key v).1.s P P' (AP v.length+2*t.height+1))∨((CT t key v).2=190∧t.s.free<AP v.length+2*t.height+1):=by
 unfold CT
 dsimp only
 have hc:=Ab8 h.gd hv
 generalize BR t.s v=c at hc⊢
 rcases hc with ⟨c1,Pc,c2,c3⟩|⟨c1,c2⟩
 ·rw[if_neg (by rw[c1];decide)]
  have hsmc:=c2.same h.live (fun p _ q=>by cases q)
  have c4:=c2.frame h.live h.nd (fun p _ q=>by cases q)
  rcases h.tr with ⟨e1,e2,rfl,rfl⟩|⟨x,e1,e2⟩
  ·rw[if_pos e1]
   have hs:Ba ⟨true,[key],[c.2.1],[]⟩=true:=CC.2 ⟨KO.cons.2 ⟨hk,KO.nil,fun _ h=>by cases h⟩,Z,fun v hv=>by rw[Aew.1 hv];exact c3.len⟩
   have hr:Bp ⟨true,[key],[c.2.1],[]⟩=true:=by
    simp only[Bp,hs,Ahr,decide_eq_true_eq];rw[size_leaf (ks:=[key]) (vs:=[c.2.1]) Z];have:=c3.len;simp only[C5,Aep,Agm];omega
   have hp:=NB c2.gd hr
   generalize Bb c.1 (-1) ⟨true,[key],[c.2.1],[]⟩=k at hp⊢
   rcases hp with ⟨p1,p2,p3⟩|⟨p1,p2⟩
   ·have hlv:=c3.live
    have hnd:=c2.nd
    have p4:=p2.frame hlv hnd (fun p _ q=>by cases q)
    have hsm:=p2.same hlv (fun p _ q=>by cases q)
    have hM:Mv t.s k.1 [] (k.2.1::Pc) (AP v.length+1):=c2.trans p4
    refine .inl ⟨p1,k.2.1::Pc,⟨p2.gd,hM.nd,Z,.inr ⟨0,Z,⟨_,Pc,p3,by simp,Z,?_⟩⟩⟩,by rw[e1];exact hM.mono (by omega)⟩
    rw[decide_eq_true Z]
    exact .mkl Z (Lf.one (c3.stay hsm))
   ·exact .inr ⟨p1,by have:=c2.fr;omega⟩
  ·rw[if_neg (by omega)]
   have hnd:(P++Pc).Nodup:=(List.perm_append_comm.nodup_iff).1 c4.nd
   have hi:=ZN (v:=v) hk x c2.gd (e2.stay hsmc) hnd c3
   rw[e1]
   generalize B9 c.1 t.root key c.2.1 (x+1)=u at hi⊢
   rcases hi with ⟨i1,i2,P',i3,i4⟩|⟨i1,i2⟩
   ·rw[if_neg (by rw[i1];decide)]
    have hM:Mv t.s u.1 P P' (AP v.length+2*(x+1)):=(c4.perm (A':=P) (by simp) Aei).trans i3
    have hct:t.count+(if u.2.2.1=true then 1 else 0)=(Em l key v).length:=by
     rw[VF,h.ct,i2];cases isK l key<;>simp
    unfold CU
    by_cases ho:u.2.1.other<0
    ·rw[if_pos ho]
     exact .inl ⟨Z,P',⟨i3.gd,hM.nd,hct,.inr ⟨x,Z,i4.tr ho (Aef _)⟩⟩,hM.mono (by omega)⟩
    ·rw[if_neg ho]
     have i4':Out u.1 x 0 u.2.1 (Em l key v) P':=by
      rcases i4 with ⟨q,_⟩|q
      ·exact absurd q ho
      ·exact .inr q
     have hr:=Uh i3.gd (by omega) i4' hM.nd
     dsimp only
     generalize Bb u.1 (-1) ⟨false,[u.2.1.key],[],[u.2.1.page,u.2.1.other]⟩=r at hr⊢
     rcases hr with ⟨r1,P2,r2,r3,r4⟩|⟨r1,r2⟩
     ·exact .inl ⟨r1,P2,⟨r2.gd,r2.nd,hct,.inr ⟨x+1,Z,r3⟩⟩,(hM.trans r2).mono (by omega)⟩
     ·exact .inr ⟨r1,by have:=hM.fr;omega⟩
   ·rw[if_pos (by rw[i1];decide)]
    exact .inr ⟨i1,by have:=c2.fr;omega⟩
 ·rw[if_pos (by rw[c1];decide)]
  exact .inr ⟨c1,by omega⟩
def Sn(hG:Pgr.Good t.s){h:Nat}{n:AK}{Q:List Int}(e:t.height=h+1)(hat:At t.s t.root n)(hn:Nd t.s (Tr t.s h) (decide (h=0)) n l Q)(hnd:(t.root::Q).Nodup)(hc:t.count=l.length):
  (DZ t).2=0∧∃P',Tok (DZ t).1 l P'∧Mv t.s (DZ t).1.s (t.root::Q) P' 0:=by
 unfold DZ
 rw[hat.read]
 dsimp only
 have hlv:∀p∈t.root::Q,Bs t.s p:=fun p hp=>(Aex.1 hp).elim (fun e=>e▸hat.liv) (hn.live p)
 by_cases hk:n.keys=[]
 ·rw[if_neg (by simp[hk])]
  obtain⟨q1,q2⟩:=List.nodup_cons.1 hnd
  obtain⟨d1,d2⟩:=JL hG hat.liv
  rw[if_neg (by rw[d1];decide)]
  have hx:∀p∈Q,p∉ [t.root]:=fun p hp q=>q1 (Aew.1 q▸hp)
  have d3:=d2.frame hn.live q2 hx
  have hsm:=d2.same hn.live hx
  by_cases h0:h=0
  ·rw[decide_eq_true h0] at hn
   obtain⟨n1,n2⟩:=hn.leaf
   rw[hk] at n2
   have hl0:=n2.len
   have hvl:=Ael hl0.1
   rw[hvl,Lf] at n2
   obtain⟨rfl,rfl⟩:=n2
   refine⟨Z,[],⟨d2.gd,List.nodup_nil,hc,.inl ⟨?_,?_,Z,Z⟩⟩,d3⟩
   ·show t.height - 1=0;omega
   ·show(if n.leaf=true then(-1:Int) else _)= -1;rw[if_pos n1]
  ·rw[decide_eq_false h0] at hn
   obtain⟨n1,n2⟩:=hn.inner
   rw[hk] at n2
   have hl0:=n2.len
   obtain⟨c,ec⟩:∃c,n.kids=[c]:=by
    cases hq:n.kids with
    |nil=>rw[hq] at hl0;cases hl0
    |cons c r=>
     rw[hq] at hl0
     exact⟨c,by rw[Ael (show r.length=0 by simpa using hl0)]⟩
   rw[ec] at n2
   have n3:=Kd.one.1 n2
   obtain⟨h',rfl⟩:∃h',h=h'+1:=⟨h - 1,by omega⟩
   refine⟨Z,Q,⟨d2.gd,q2,hc,.inr ⟨h',?_,?_⟩⟩,d3⟩
   ·show t.height - 1=h'+1;omega
   ·show Tr (t.s.drop t.root).1 (h'+1) (if n.leaf=true then(-1:Int) else n.kids.getD 0 0) l Q
    rw[if_neg (by rw[n1];decide),ec]
    exact n3.stay hsm
 ·rw[if_pos (by simp[hk])]
  exact⟨Z,_,⟨hG,hnd,hc,.inr ⟨h,e,⟨n,Q,hat,hk,Z,hn⟩⟩⟩,Mv.id hG hlv hnd⟩
def Aak(h:Tok t l P)(key:List UInt8):
  ((BX t key).2.2=0∧(BX t key).2.1=isK l key∧∃P',Tok (BX t key).1 (Cn l key).1 P'∧Mv t.s (BX t key).1.s P P' (4*t.height+1))∨((BX t key).2.2=190∧t.s.free<4*t.height+1):=by
 unfold BX
 rcases h.tr with ⟨e1,e2,rfl,rfl⟩|⟨x,e1,e2⟩
 ·rw[if_pos e1]
  exact .inl ⟨Z,Z,[],h,(Mv.refl h.gd).mono (Aez _)⟩
 ·rw[if_neg (by omega)]
  dsimp only
  have hr:=UK (key:=key) x h.gd e2 h.nd
  rw[e1]
  generalize B3 t.s t.root key (x+1)=u at hr⊢
  rcases hr with ⟨r1,r2,⟨r3,r4⟩|⟨r3,P',r4,r5⟩⟩|⟨r1,r2⟩
  ·rw[if_pos (.inr (by rw[r2,r3]))]
   refine .inl ⟨r1,r3.symm,P,?_,?_⟩
   ·have e:(Cn l key).1=l:=by unfold Cn;rw[if_neg (by rw[r3];decide)]
    rw[e]
    show Tok ⟨u.1,t.root,x+1,t.count⟩ l P
    rw[r4,←e1];exact h
   ·show Mv t.s u.1 P P _
    rw[r4];exact h.id.mono (Aez _)
  ·rw[if_neg (by rw[r1,r2,r3];simp)]
   have hct:t.count - 1=(Cn l key).1.length:=by
    have:=UY (l:=l) (key:=key);rw[r3,if_pos Z] at this;have:=h.ct;omega
   unfold CU
   by_cases ho:u.2.1.other<0
   ·rw[if_pos ho]
    rcases r5 with ⟨_,n,Q,b1,b2,rfl,_,b4⟩|⟨q,_⟩
    ·rw[if_neg (fun q=>q Z)]
     obtain⟨s1,P2,s2,s3⟩:=Sn (t:=⟨u.1,u.2.1.page,x+1,t.count - 1⟩) r4.gd (h:=x) Z b1 b4 r4.nd hct
     exact .inl ⟨s1,r3.symm,P2,s2,(r4.trans s3).mono (by omega)⟩
    ·omega
   ·rw[if_neg ho]
    have hrt:=Uh r4.gd (by omega) r5 r4.nd
    dsimp only
    generalize Bb u.1 (-1) ⟨false,[u.2.1.key],[],[u.2.1.page,u.2.1.other]⟩=r at hrt⊢
    rcases hrt with ⟨w1,P2,w2,w3,w4⟩|⟨w1,w2⟩
    ·rw[if_neg (by rw[w1];decide)]
     obtain⟨n,Q,b1,b2,b3,b4⟩:=w3
     subst b3
     obtain⟨s1,P3,s2,s3⟩:=Sn (t:=⟨r.1,r.2.1,x+1+1,t.count - 1⟩) w2.gd (h:=x+1) Z b1 b4 w2.nd hct
     exact .inl ⟨s1,r3.symm,P3,s2,((r4.trans w2).trans s3).mono (by omega)⟩
    ·rw[if_pos (by rw[w1];decide)]
     exact .inr ⟨w1,by have:=r4.fr;omega⟩
  ·rw[if_pos (.inl (by rw[r1];decide))]
   exact .inr ⟨r1,by omega⟩
def ZC{key}:∀(h:Nat) {s}{k:Int}{l}{P:List Int},Tr s (h+1) k l P→
  E4 s key k (h+1)=((En l key).1,(En l key).2,0)∧∃n,Hn s key k (h+1)=h+1+n∧n=if isK l key=true then(if 15<(En l key).1.length then AP (En l key).1.length else 0) else 0
 |0,s,k,l,P,⟨n,Q,hat,hne,eP,hn⟩=>by
  subst eP;rw[decide_eq_true Z] at hn;obtain⟨n1,n2⟩:=hn.leaf;have ef:=Eo hat.sound n1;obtain⟨ks,vs,rfl⟩:∃ks vs,n=⟨true,ks,vs,[]⟩:=⟨_,_,ef⟩
  simp only at n2 hne;obtain⟨hko,hvl,hv16⟩:=CC.1 hat.sound;have hlv:=hat.level (x:=((0+1:Nat):Int)) Z;have hlz:(AX s k ((0+1:Nat):Int)).2=0:=by rw[hlv]
  have hln:(AX s k ((0+1:Nat):Int)).1=⟨true,ks,vs,[]⟩:=by rw[hlv]
  rcases Ju hko (vs:=vs) key with ⟨a,b,rfl,hf,ha,hb⟩|⟨a,b,rfl,hf,ha,hb⟩
  ·obtain⟨va,c,vb,l1,v0,l2,P1,Pv,P2,rfl,ev,rfl,rfl,g1,g2,g3⟩:=QV n2;have e0:(va++[c]++vb).getD a.length []=c:=by rw[←ev];exact EZ
   have hl1:=J3 g1 ha;have hl2:=Ky g3 hb;have hget:En (l1++[(key,v0)]++l2) key=(v0,true):=by rw[Tp hl1 hl2,AaI]
   have hisk:isK (l1++[(key,v0)]++l2) key=true:=by rw[Ft hl1 hl2,Kx]
   have hg:=Xf hlz hln hf;simp only[e0] at hg;rw[hget,hisk];refine⟨?_,_,?_,Z⟩
   ·rw[hg.1,g2.val];simp
   ·rw[hg.2,g2.D3,if_pos Z]
  ·obtain⟨va,vb,l1,l2,P1,P2,rfl,ev,rfl,rfl,g1,g3⟩:=Q8 n2;have hl1:=J3 g1 ha;have hl2:=Ky g3 hb;have hisk:isK (l1++l2) key=false:=by
    have:=Ft (m:=[]) hl1 hl2;rw[Rn,Afh] at this;exact this
   have hget:En (l1++l2) key=([],false):=by unfold En;rw[if_neg (by rw[hisk];decide)]
   obtain⟨y1,y2⟩:=Xo hlz hln hf;rw[hget,hisk];exact⟨y1,0,y2,Z⟩
 |h+1,s,k,l,P,⟨n,Q,hat,hne,eP,hn⟩=>by
  subst eP;rw[decide_eq_false (Ago _)] at hn;obtain⟨n1,n2⟩:=hn.inner;have ef:=Eg hat.sound n1;obtain⟨ks,cs,rfl⟩:∃ks cs,n=⟨false,ks,[],cs⟩:=⟨_,_,ef⟩
  simp only at n2 hne;obtain⟨hko,hcl,hrng⟩:=Ch.1 hat.sound;have hlv:=hat.level (x:=((h+1+1:Nat):Int)) (by show false=_;exact(decide_eq_false (by omega)).symm);have hlz:(AX s k ((h+1+1:Nat):Int)).2=0:=by rw[hlv]
  have hln:(AX s k ((h+1+1:Nat):Int)).1=⟨false,ks,[],cs⟩:=by rw[hlv]
  obtain⟨a,b,rfl,hf,ha,hb⟩:=Iv hat.sound key;obtain⟨ca,c,cb,rfl,ec⟩:=Ke cs (i:=a.length) (by rw[hcl];simp;omega);have e0:(ca++[c]++cb).getD a.length 0=c:=by rw[←ec];exact EZ
  have n2':Kd (Tr s (h+1)) (a++[]++b) (ca++[c]++cb) l Q:=by simpa using n2
  obtain⟨l1,m,l2,P1,Pm,P2,rfl,rfl,g1,g2,g3,g4,g5⟩:=n2'.focus (by simpa using hko) ec Z;have hl1:∀x∈l1,Lt x.1 key:=fun x hx=>by
   obtain⟨p,p1,p2⟩:=g1.below x hx;exact HG p2 (ha p p1)
  have hl2:∀x∈l2,Lt key x.1:=fun x hx=>by
   obtain⟨p,p1,p2⟩:=g3.SR x hx;exact HG (hb p p1) p2
  have hg:=PL hlz hln hf;simp only[e0] at hg;obtain⟨i1,i2,i3,i4⟩:=ZC (key:=key) h g2;rw[Tp hl1 hl2,Ft hl1 hl2];exact⟨hg.1.trans i1,i2,by rw[hg.2,i3];omega,i4⟩
def S6{R:RT}{m:Nat}(hR:∀c l P,R c l P→m≤l.length):∀{ks}{cs:List Int}{l}{P:List Int},Kd R ks cs l P→m*(ks.length+1)≤l.length
 |[],[c],l,P,h=>by simpa using hR c l P h
 |[],[],l,P,h=>h.elim
 |[],_::_::_,l,P,h=>h.elim
 |_::_,[],l,P,h=>h.elim
 |k::ks,c::cs,l,P,h=>by
  obtain⟨l1,l2,P1,P2,rfl,rfl,h1,h2,h3,h4⟩:=Kd.cons.1 h;have a:=hR _ _ _ h1;have b:=S6 hR h4;rw[Aek,Aep,Nat.mul_succ];omega
def UT:∀(h:Nat) {s}{k:Int}{l}{P:List Int},Tr s (h+1) k l P→2 ^ h≤l.length
 |0,s,k,l,P,ht=>F0.1 ht.ne
 |h+1,s,k,l,P,⟨n,Q,hat,hne,eP,hn⟩=>by
  rw[decide_eq_false (Ago _)] at hn;have h1:=S6 (m:=2 ^ h) (fun c l P q=>UT h q) hn.inner.2;have h2:=F0.1 hne;have:2 ^ h*2≤2 ^ h*(n.keys.length+1):=Ajl _ (by omega);rw[Nat.pow_succ];omega
def Tok.high(h:Tok t l P):(l=[]∧t.height=0∧t.root= -1)∨(l≠[]∧1≤t.height∧2 ^ t.height≤2*l.length):=by
 rcases h.tr with ⟨e1,e2,rfl,_⟩|⟨x,e1,e2⟩
 ·exact .inl ⟨Z,e1,e2⟩
 ·refine .inr ⟨e2.ne,by omega,?_⟩;have:=UT x e2;rw[e1,Nat.pow_succ];omega
def Tok.get(h:Tok t l P)(key:List UInt8):E4 t.s key t.root t.height=((En l key).1,(En l key).2,0):=by
 rcases h.tr with ⟨e1,e2,rfl,_⟩|⟨x,e1,e2⟩
 ·rw[e1];rfl
 ·rw[e1];exact(ZC x e2).1
end Go.Gk.Tre
end
section
namespace Go.Gk.Tre
open Go Go.Gk Go.Gk.Dev Go.Gk.Cch Go.Gk.Pgr Go.Gk.Chn Go.Gk.Node
attribute [local irreducible] gwp gws xwp
variable{f1 f2 f3:FuncId}
def Nq(P:Program)(f:FuncId):Prop:=∀{d s dv pv L}{bt:Nat}{Tt}{r h c k:Int}{cs}{n:AK}{hk hv hi}{i:Nat},
 PgT d s dv pv L→D4 d cs n hk hv hi→Fit n 400→1≤n.keys.length→n.kids.length=n.keys.length+1→i≤n.keys.length→(∀x∈n.kids, -1≤x∧x≤16384)→ -1≤k→k≤16384→
 AA P f [pZ bt,vZ k,.agg cs.toArray,vZ i] d (hk::hv::hi::tb bt Tt pv r h c::L) (Ret fun v d' L'=>Le d d'∧∃ua uc L2,v=.tuple #[mdV (DW s k n i).2.1 ua uc,vZ (DW s k n i).2.2]∧
  AJ d' (.slice ua (DW s k n i).2.1.key.length uc) (DW s k n i).2.1.key∧MOk (DW s k n i).2.1∧L'=tb bt Tt pv r h c::L2∧PgT d' (DW s k n i).1 dv pv L2)
def Sq{s}{k:Int}:Fit (Bo s k).1 300:=by
 unfold Bo;by_cases hl:Bs s k
 ·rw[if_pos hl];show Fit ((Node.BT (s.bytes k)).getD H7) 300;cases hr:Node.BT (s.bytes k) with
  |none=>exact⟨by decide,by decide,by decide,fun x hx=>(by cases hx),fun x hx=>(by cases hx)⟩
  |some n=>
   obtain⟨⟨a,b,c,e,g⟩, -⟩:=HP (PF hr).1
   exact⟨show n.keys.length≤300 by omega,show n.vals.length≤300 by omega,show n.kids.length≤300 by omega,e,g⟩
 ·rw[if_neg hl];exact⟨by decide,by decide,by decide,fun x hx=>(by cases hx),fun x hx=>(by cases hx)⟩
def AaH{a b:AK}{key}(ha:Fit a 300)(hb:Fit b 300)(hk:key.length≤1000):Fit (Cs a b key) 601:=by
 obtain⟨a1,a2,a3,a4,a5⟩:=ha;obtain⟨b1,b2,b3,b4,b5⟩:=hb;unfold Cs;split
 ·refine⟨by simp;omega,by simp;omega,by simp,fun x hx=>?_,fun x hx=>?_⟩
  ·rcases Aej.1 hx with hx|hx
   ·exact a4 x hx
   ·exact b4 x hx
  ·rcases Aej.1 hx with hx|hx
   ·exact a5 x hx
   ·exact b5 x hx
 ·refine⟨by simp;omega,by simp,by simp;omega,fun x hx=>?_,fun x hx=>by cases hx⟩
  rcases Aej.1 hx with hx|hx
  ·rcases Aej.1 hx with hx|hx
   ·exact a4 x hx
   ·rw[Aew.1 hx];exact hk
  ·exact b4 x hx
def O3(a0 a1 a2 a3 a4 a5:Nat):A0:=⟨137,[(.cell 8 (some 4)),(.tmp 9)],(sR (o1 6 (.box 2)<|o1 8 (.alo (.agg #[(vZ 0),(vZ 0),nV,(vZ 0)]))<|o1 9 (.mv z0) .done) (.seq (sR (om 15 3<|oj 16 1 6<|ol 17 16<|oL 18 17<|ob 19 .eql 15 18 .done) (.cond 19 (rG (om 20 3<|ob 21 .sub 20 z1<|om 3 21 .done)) .skip)) (sR (om 23 0<|oj 24 3 6<|ol 25 24<|om 26 3<|oI 27 1 25 26<|ol 28 27<|oc 29 a0 [23,28]<|om 22 29<|oe 30 22 0<|oe 31 22 1<|o1 10 (.alo (.agg #[(.bool false),nV,nV,nV]))<|o0 (.st 4 10 30)<|om 11 31 .done) (.seq (sR (om 32 11<|ob 33 .neq 32 z0 .done) (.cond 33 (sR (o1 34 (.bld [(0,1),(1,1),(2,1),(3,1)] [(vZ 0),(vZ 0),nV,(vZ 0)] [])<|om 35 11<|o0 (.st 4 8 34)<|om 9 35 .done) .ret) .skip)) (sR (om 37 0<|oj 38 3 6<|ol 39 38<|om 40 3<|ob 41 .add 40 z1<|oI 42 1 39 41<|ol 43 42<|oc 44 a0 [37,43]<|om 36 44<|oe 45 36 0<|oe 46 36 1<|o1 12 (.alo (.agg #[(.bool false),nV,nV,nV]))<|o0 (.st 4 12 45)<|om 11 46 .done) (.seq (sR (om 47 11<|ob 48 .neq 47 z0 .done) (.cond 48 (sR (o1 49 (.bld [(0,1),(1,1),(2,1),(3,1)] [(vZ 0),(vZ 0),nV,(vZ 0)] [])<|om 50 11<|o0 (.st 4 8 49)<|om 9 50 .done) .ret) .skip)) (.seq (sR (oj 51 0 10<|ol 52 51<|oj 53 0 12<|ol 54 53<|o1 55 (.eqb true 52 54) .done) (.cond 55 (sR (o1 56 (.bld [(0,1),(1,1),(2,1),(3,1)] [(vZ 0),(vZ 0),nV,(vZ 0)] [])<|o0 (.st 4 8 56)<|o1 9 (.mv (kZ 200)) .done) .ret) .skip)) (.seq (.reg true (pm 58 0<|p1 59 (.fld 3 6)<|pl 60 59<|pm 61 3<|p1 62 (.idx 1 60 61)<|pl 63 62<|p1 64 (.ld (some 4) 10)<|p1 65 (.ld (some 4) 12)<|p1 66 (.fld 1 6)<|pl 67 66<|pm 68 3<|p1 69 (.idx 1 67 68)<|pl 70 69 (.par (o1 13 (.alo (.agg #[(vZ 0),(vZ 0),nV,(vZ 0)])) .done) (oc 71 a1 [64,65,70] (oc 72 a2 [58,63,71] (pm 57 72 (p1 73 (.ext 57 0) (p1 74 (.ext 57 1) .done))))) (o0 (.st 4 13 73) (pm 11 74 .done))))) (.seq (sR (om 75 11<|ob 76 .neq 75 z0 .done) (.cond 76 (sR (o1 77 (.bld [(0,1),(1,1),(2,1),(3,1)] [(vZ 0),(vZ 0),nV,(vZ 0)] [])<|om 78 11<|o0 (.st 4 8 77)<|om 9 78 .done) .ret) .skip)) (.seq (.seq (.reg true (pm 79 0<|p1 80 (.nilc 79)<|p1 81 (.fld 0 80)<|pl 82 81<|p1 83 (.fld 3 6)<|pl 84 83<|pm 85 3<|p1 86 (.bin .add 85 z1)<|p1 87 (.idx 1 84 86)<|pl 88 87<|oc 89 a3 [82,88] (.bar (pm 14 89 .done)))) (sR (om 90 14<|ob 91 .neq 90 z0 .done) (.cond 91 (sR (o1 92 (.bld [(0,1),(1,1),(2,1),(3,1)] [(vZ 0),(vZ 0),nV,(vZ 0)] [])<|om 93 14<|o0 (.st 4 8 92)<|om 9 93 .done) .ret) .skip))) (sR (oj 94 3 6<|ol 95 94<|om 96 3<|oj 97 0 13<|ol 98 97<|oI 99 1 95 96<|o0 (.st 1 99 98) .done) (.seq (sR (oj 100 1 13<|ol 101 100<|ob 102 .geq 101 z0 .done) (.cond 102 (.reg true (p1 103 (.fld 1 6)<|pl 104 103<|pm 105 3<|p1 106 (.fld 3 6)<|pl 107 106<|pm 108 3<|p1 109 (.bin .add 108 z1)<|p1 110 (.fld 2 13)<|pl 111 110<|p1 112 (.fld 1 13)<|pl 113 112<|p1 114 (.idx 1 104 105)<|o0 (.st 1 114 111)<|p1 115 (.idx 1 107 109)<|o0 (.st 1 115 113) .done)) (.reg true (p1 116 (.fld 1 6)<|pl 117 116<|pm 118 3<|pm 119 3<|p1 120 (.bin .add 119 z1)<|p1 122 (.fld 3 6)<|pl 123 122<|pm 124 3<|p1 125 (.bin .add 124 z1)<|pm 126 3<|p1 127 (.bin .add 126 z2)<|oc 121 a4 [117,118,120]<|p1 129 (.fld 1 6)<|oc 128 a5 [123,125,127] (.bar (o0 (.st 1 129 121) (p1 130 (.fld 3 6) (o0 (.st 1 130 128) .done)))))))) (sR (om 131 0<|om 132 1<|o1 133 (.ld (some 4) 6)<|oc 134 a2 [131,132,133]<|oe 135 134 0<|oe 136 134 1<|o0 (.st 4 8 135)<|om 9 136 .done) .ret)))))))))))))⟩
set_option maxRecDepth 4000 in
set_option maxHeartbeats 8000000 in
def US{P f f4 f5 f6}(hd:I4 P f=some (O3 f1 f2 f3 f4 f5 f6))(h1:IE P f1)(h2:Pu P f2)(h3:Hg P f3)(h4:Pgr.Gl P f4)(h5:Ix RBs P f5)(h6:Ix Bh P f6):Nq P f:=by
 intro d s dv pv L bt Tt r h c k cs n hk hv hi i0 hp hn hfit hk1 hkk hi0 hkb hpg0 hpg1;obtain⟨bp,rfl⟩:=hp.ptr;have hfk:=hfit.k;obtain⟨kv,vv,iv,rfl,r1,r2,r3⟩:=hn;obtain⟨ya,yc,rfl⟩:=r2.val;obtain⟨bk,Tk,lk,ck,rfl,rfl,hlk,hallk,hsetk⟩:=As.all (R:=RBs) C6 r1 (by omega);obtain⟨bi,Ti,li,ci,rfl,rfl,hli,halli,hseti⟩:=As.all (R:=Bh) B6 r3 (by omega);refine AG hd (Aea Z) ?_;show gwp P _ _ _ _ _;apply Ag;apply AE;refine Ck Z (fun b6 T6=>?_);refine BP (fun b8 T8=>?_);apply Ab;rfl;apply Aa;obtain⟨i,hii⟩:∃i,i=if i0=n.keys.length then i0 - 1 else i0:=⟨_,Z⟩
 have hil:i<n.keys.length:=by rw[hii];split<;>omega
 refine Gw (fun ρ d' L'=>BG ρ [(0,pZ bt),(1,vZ k),(3,vZ i),(6,pZ b6),(8,pZ b8),(9,vZ 0)]∧d=d'∧
  L'=bx b8 T8 [vZ 0,vZ 0,nV,vZ 0]::bx b6 T6 [.bool n.leaf,.slice (some ⟨bk,0,none⟩) n.keys.length ck,.slice ya n.vals.length yc,.slice (some ⟨bi,0,none⟩) n.kids.length ci]::bx bk Tk lk::hv::bx bi Ti li::tb bt Tt (pZ bp) r h c::L) ?_ ?_
 ·by_cases e:i0=n.keys.length
  ·rw[if_pos e] at hii;(refine Ad<|Ab Z<|Ai Z<|Ah Z (Al 1 Z Z)<|AI Z<|AN Z Z<|Aa<|Aw Z (by omega)<|AE<|Ab Z<|CV Z Z (by omega) (by omega)<|Ab Z<|Aa ?_);exact⟨⟨Z,Z,congrArg (Value.int .i64) (by omega),Z,Z,Z,trivial⟩,Z,Z⟩
  ·rw[if_neg e] at hii;subst hii;(refine Ad<|Ab Z<|Ai Z<|Ah Z (Al 1 Z Z)<|AI Z<|AN Z Z<|Aa<|Ar Z (by omega)<|Ak ?_);exact⟨⟨Z,Z,Z,Z,Z,Z,trivial⟩,Z,Z⟩
 rintro ρ d' L' ⟨hsl,hdd,hLL⟩;subst hdd;subst hLL;refine C1 _ hsl ?_;have hg0:n.kids.getD i 0=n.kids[i]:=by rw[Aee,Aed (by omega)];rfl
 have hg1:n.kids.getD (i+1) 0=n.kids[i+1]:=by rw[Aee,Aed (by omega)];rfl
 have hgk:n.keys.getD i []=n.keys[i]:=by rw[Aee,Aed hil];rfl
 have hM:=Uu (s:=s) (k:=k) (show n.keys.length≠0 by omega) hii Z Z;rw[hg0,hg1,hgk] at hM;have hb0:=hkb _ (Aey (show i<n.kids.length by omega));obtain⟨u0,c0,hq0,hq1,hq2⟩:=halli i (by omega);cases hq0;obtain⟨u1,c1,hq3,hq4,hq5⟩:=halli (i+1) (by omega);cases hq3;obtain⟨uk,c2,uk',hq6,hkey⟩:=hallk i hil;cases hq6;obtain⟨tc0,hpx⟩:=hp;refine Ad<|Am Z<|Ai Z<|Ah Z (Al 1 Z Z)<|Ab Z<|BD _ Z Z Z (by omega)<|Ah Z (Al 4 Z (by assumption))<|AY [_,_,_,_,_] (h1 (k:=n.kids[i]) hpx) Z Z (fun v d2 L2 hl2 ⟨_,ca,ha1,ha2,ha3,L3,tc1,e1,e2,hna,hp2,htc⟩=>?_);subst e1;subst e2;rw[show Bo {s with tc:=tc0} n.kids[i]=Bo s n.kids[i] from Z] at hna⊢;have hp2:Pg d2 {s with tc:=tc1} dv (pZ bp) L3:=hp2;obtain⟨d3,hl3,v3,na⟩:=F3 hna;have hfa:Fit (Bo s n.kids[i]).1 300:=Sq;refine BS _ _ (Vs.out [_,_,_,_,_] _ (Afr _) v3) ?_;generalize Bo s n.kids[i]=A at hM na hfa;obtain⟨an,ae⟩:=A;simp only at na hfa hM⊢;obtain⟨aka,akc,ava,avc,aia,aic,rfl⟩:=Cj.four na;(refine AT Z<|Ao Z Z<|Ao Z Z<|BP (fun _ _=>?_));rename_i b10 T10;refine Br 0 Z Z Z Z (Aef _) Z ?_;by_cases hae:ae=0
 ·rw[if_neg (fun q=>q hae)] at hM;subst hae;refine Ab Z<|Aa<|Ag<|Ad<|Ab Z<|AO Z Z<|Aa<|Ar Z (by omega)<|Ak<|Ad<|Am Z<|Ai Z<|Ah Z (Al 2 Z Z)<|Ab Z<|AM Z Z (by omega) (by omega)<|BD (i+1) Z Z (show((i:Int)+1)=((i+1:Nat):Int) by omega) (by omega) ?_;(apply Ah;rfl;exact Al 5 Z (by assumption));refine AY [_,_,_,_,_,_] (h1 (k:=n.kids[i+1]) (hp2.mono hl3)) Z Z (fun v d4 L4 hl4 ⟨_,cb,hb1,hb2,hb3,L5,tc2,e3,e4,hnb,hp4,htc4⟩=>?_);subst e3;subst e4;rw[show Bo {s with tc:=tc1} n.kids[i+1]=Bo s n.kids[i+1] from Z] at hnb⊢;have hp4:PgT d4 s dv (pZ bp) L5:=⟨tc2,hp4⟩
  obtain⟨d5,hl5,v5,nb⟩:=F3 hnb;have hfb:Fit (Bo s n.kids[i+1]).1 300:=Sq;refine BS _ _ (Vs.out [_,_,_,_,_,_] _ (Afr _) v5) ?_;generalize Bo s n.kids[i+1]=B at hM nb hfb;obtain⟨bn,be⟩:=B;simp only at nb hfb hM⊢;obtain⟨bka,bkc,bva,bvc,bia,bic,rfl⟩:=Cj.four nb;(refine AT Z<|Ao Z Z<|Ao Z Z<|BP (fun _ _=>?_));rename_i b12 T12;refine Br 0 Z Z Z Z (Aef _) Z ?_;by_cases hbe:be=0
  ·rw[if_neg (fun q=>q hbe)] at hM;subst hbe;have hle5:=((hl2.trans hl3).trans hl4).trans hl5;have na5:=na.mono (hl4.trans hl5);have hkey5:=RSl.mono (R:=AH) AL hkey hle5;(refine Ab Z<|Aa<|Ag<|Ad<|Ab Z<|AO Z Z<|Aa<|Ar Z (by omega)<|Ak<|Ag<|Ad<|Ai Z<|Ah Z (Al 1 Z Z)<|Ai Z<|Ah Z (Al 0 Z Z)<|HF Z Z<|Aa ?_);by_cases hlf:an.leaf=bn.leaf
   ·rw[if_neg (fun q=>q hlf)] at hM;refine AS (congrArg Value.bool (show(true ^^(an.leaf==bn.leaf))=false by rw[hlf];simp)) ?_;apply Ak;apply Ag;refine Bw [_,_,_,_,_,_,_] (tb bt Tt (pZ bp) r h c::L5) Z ?_;(refine Am Z<|Ai Z<|Ah Z (Al 3 Z Z)<|Ab Z<|BD _ Z Z Z (by omega)<|Ah Z (Al 6 Z (by assumption))<|Bf 1 Z Z Z<|Bf 0 Z Z Z<|Ai Z<|Ah Z (Al 3 Z Z)<|Ab Z<|BD _ Z Z Z (by omega)<|Ah Z (Al 4 Z (by assumption)) ?_);obtain⟨xa,xc,rfl⟩:=hkey.val;have hkl:=hfit.kl _ (Aey hil);have hjf:=AaH (key:=n.keys[i]) hfa hfb hkl;refine FQ (α:=Nat×TypeId) (β:=Option Addr×Nat×List Ac) [(0,pZ bt),(1,vZ k),(3,vZ i),(6,pZ b6),(8,pZ b8)]
     (fun x=>[(13,.pointer (some ⟨x.1,0,none⟩))]) (fun x d L=>L=[bx x.1 x.2 [vZ 0,vZ 0,nV,vZ 0]])
     (fun y=>[(73,mdV (Bk s n.kids[i] (Cs an bn n.keys[i])).2.1 y.1 y.2.1),(74,vZ (Bk s n.kids[i] (Cs an bn n.keys[i])).2.2)])
     (fun y d' M=>AJ d' (.slice y.1 (Bk s n.kids[i] (Cs an bn n.keys[i])).2.1.key.length y.2.1) (Bk s n.kids[i] (Cs an bn n.keys[i])).2.1.key∧PgT d' (Bk s n.kids[i] (Cs an bn n.keys[i])).1 dv (pZ bp) y.2.2∧M=tb bt Tt (pZ bp) r h c::y.2.2) [] _ Z
     (fun x d d' M hl h=>h) (fun y d d' M hl h=>⟨RSl.mono (R:=AH) AL h.1 hl,h.2.1.mono hl,h.2.2⟩) (fun x=>Z) (fun y=>Z) Z ⟨Z,Z,Z,Z,Z,trivial⟩ ?_ ?_ ?_
    ·refine BP (fun b13 T13=>?_);(apply AZ);exact⟨_,Z,(b13,T13),⟨Z,trivial⟩,Z⟩
    ·have hA:=hfa.k;have hA2:=hfa.v;have hA3:=hfa.i;have hB:=hfb.k;have hB2:=hfb.v;have hB3:=hfb.i;refine Bl Z (h2 na5 nb hkey5 (by omega) (by omega) (by omega)) (fun v d6 L6 hl6 ⟨e5,cj,e6,nj⟩=>?_);subst e5;subst e6;refine AY [] (h3 (k:=n.kids[i]) ((hp4.mono hl5).mono hl6) nj (hjf.small (by omega))) Z Z (fun v d7 L7 hl7 ⟨_,ua,uc,L8,e7,hk7,e8,hp8⟩=>?_);subst e7;subst e8;(refine AT Z<|Ao Z Z<|Ao Z Z<|AZ ?_);exact⟨_,Z,(ua,uc,L8),⟨Z,Z,trivial⟩,hk7,hp8,Z⟩
    rintro⟨b13,T13⟩ ⟨ua,uc,L8⟩ ρ2 d6 M1 M2 hl6 hM1 ⟨hk6,hp6,hM2⟩;subst hM1;subst hM2;simp only at hk6 hp6⊢;have hmw:=Hv hp4.EL (k:=n.kids[i]) (n:=Cs an bn n.keys[i]) hb0.1 hb0.2 hjf.kl;generalize Bk s n.kids[i] (Cs an bn n.keys[i])=W at hM hk6 hp6 hmw;have hm1:=hmw.p0;have hm2:=hmw.p1;have hm3:=hmw.o0;have hm4:=hmw.o1;have hm5:=hmw.k;refine Br 0 Z Z Z Z (Aef _) Z ?_;by_cases hwe:W.2.2=0
    ·rw[if_neg (fun q=>q hwe)] at hM;refine Ab Z<|AZ<|Ag<|Ad<|Ab Z<|AO Z Z<|Aa<|Ar Z (by omega)<|Ak<|Ag<|Ag<|Bw [_,_,_,_,_,_,_,_,_] L8 Z ?_;refine Am Z<|AF Z<|Ai Z<|Ah Z (Al 8 Z Z)<|Ai Z<|Ah Z (Al 3 Z Z)<|Ab Z<|AM Z Z (by omega) (by omega)<|BD (i+1) Z Z (show((i:Int)+1)=((i+1:Nat):Int) by omega) (by omega) ?_;(apply Ah;rfl;exact Al 6 Z (by assumption));refine CA (Yv h4 hp6 (k:=n.kids[i+1])) Z (fun v d7 L9 hl7 ⟨e9,hp9⟩=>?_);subst e9;by_cases hde:(W.1.drop n.kids[i+1]).2=0
     ·rw[if_neg (fun q=>q hde)] at hM;rw[hde];rw[hM];have hk9:=RSl.mono (R:=AH) AL hk6 hl7;have hG:=hp9.EL;have hle7:=(hle5.trans hl6).trans hl7;have hrow1:=hseti d7 i (vZ W.2.1.page) W.2.1.page hle7 (by omega) ⟨Z,by omega,by omega⟩;refine Cd<|Ab Z<|Aa<|Ad<|Ab Z<|AO Z Z<|Aa<|Ar Z (by omega)<|Ak<|Ad<|Ai Z<|Ah Z (Al 3 Z Z)<|Ab Z<|Ai Z<|Ah Z (Al 7 Z Z)<|BD _ Z Z Z (by omega)<|A7 6 (patch li (i*1) [vZ W.2.1.page]) Z Z Z Z (by omega) Z Z ?_;apply Aa;generalize hT:(if 0≤W.2.1.other then Bk (W.1.drop n.kids[i+1]).1 k {n with keys:=n.keys.set i W.2.1.key,kids:=(n.kids.set i W.2.1.page).set (i+1) W.2.1.other} else Bk (W.1.drop n.kids[i+1]).1 k {n with keys:=n.keys.eraseIdx i,kids:=(n.kids.set i W.2.1.page).eraseIdx (i+1)})=T;refine Gw (fun ρ d' L'=>d7=d'∧∃cs' n' hk' hv' hi' x12 x10 x13 Lr,BG ρ [(0,pZ bt),(1,vZ k),(6,pZ b6),(8,pZ b8)]∧D4 d' cs' n' hk' hv' hi'∧Fit n' 600∧Bk (W.1.drop n.kids[i+1]).1 k n'=T∧Lr.Perm [hk',hv',hi']∧
       L'=x12::x10::bx b8 T8 [vZ 0,vZ 0,nV,vZ 0]::bx b6 T6 cs'::x13::(Lr++tb bt Tt (pZ bp) r h c::L9)) ?_ ?_
      ·by_cases ho:0≤W.2.1.other
       ·rw[if_pos ho] at hT;refine Ad<|Ai Z<|Ah Z (Al 7 Z Z)<|Da Z Z<|Aa<|Aw Z (by omega)<|Ua [_,_,_,_,_] (bx bk Tk lk::hv::bx bi Ti (patch li (i*1) [vZ W.2.1.page])::tb bt Tt (pZ bp) r h c::L9) (Aie [_,_,_,_] (Afj (l₁:=[_,_,_]))) ?_;(refine Ai Z<|Ah Z (Al 3 Z Z)<|Ab Z<|Ai Z<|Ah Z (Al 3 Z Z)<|Ab Z<|AM Z Z (by omega) (by omega)<|Ai Z<|Ah Z (Al 4 Z Z)<|Ai Z<|Ah Z (Al 4 Z Z)<|BD _ Z Z Z (by omega) ?_);have hrowk:=hsetk d7 i (.slice ua W.2.1.key.length uc) W.2.1.key hle7 hil ⟨_,Z,hk9⟩;refine A7 0 (patch lk (i*1) [.slice ua W.2.1.key.length uc]) Z Z Z Z (by omega) Z Z ?_;skip;refine BD (i+1) Z Z (show((i:Int)+1)=((i+1:Nat):Int) by omega) (by omega) ?_;obtain⟨b',T',l',c',q1,q2,q3, -,hs2⟩:=As.all (R:=Bh) B6 hrow1 (by rw[Aff];omega);rw[Aff] at q1;cases q1;obtain⟨rfl,hq⟩:=Tn q2;rw[Aff] at q3;have hrow2:=hs2 d7 (i+1) (vZ W.2.1.other) W.2.1.other (Le.refl _) (by rw[Aff];omega) ⟨Z,by omega,by omega⟩;rw[←hq] at hrow2 q3;refine A7 2 (patch (patch li (i*1) [vZ W.2.1.page]) ((i+1)*1) [vZ W.2.1.other]) Z Z Z Z (by omega) Z Z ?_;(apply AZ);refine⟨Z,_,{n with keys:=n.keys.set i W.2.1.key,kids:=(n.kids.set i W.2.1.page).set (i+1) W.2.1.other},_,hv,_,_,_,_,[_,_,_],⟨Z,Z,Z,Z,trivial⟩,⟨_,_,_,Z,hrowk,r2.DI hle7,hrow2⟩,⟨?_,?_,?_,fun y hy=>?_,hfit.vl⟩,hT,Afr _,Z⟩
        ·show(n.keys.set i W.2.1.key).length≤600;rw[Aff];omega
        ·have:=hfit.v;show n.vals.length≤600;omega
        ·show((n.kids.set i W.2.1.page).set (i+1) W.2.1.other).length≤600;rw[Aff,Aff];omega
        ·rcases Rm hy with rfl|hy
         ·exact hm5
         ·exact hfit.kl y hy
       ·rw[if_neg ho] at hT;refine Ad<|Ai Z<|Ah Z (Al 7 Z Z)<|Da Z Z<|Aa<|Ar Z (by omega)<|Ua [_,_,_,_,_] (bx bk Tk lk::hv::bx bi Ti (patch li (i*1) [vZ W.2.1.page])::tb bt Tt (pZ bp) r h c::L9) (Aie [_,_,_,_] (Afj (l₁:=[_,_,_]))) ?_;refine Ai Z<|Ah Z (Al 3 Z Z)<|Ab Z<|Ab Z<|AM Z Z (by omega) (by omega)<|Ai Z<|Ah Z (Al 3 Z Z)<|Ab Z<|AM Z Z (by omega) (by omega)<|Ab Z<|AM Z Z (by omega) (by omega)<|DY (A:=[_]) Z Z (h5 (r1.DI hle7) hil Z (by omega) E6) (fun v da La hla ⟨ea,h121,eb,hg121⟩=>?_);subst ea;subst eb;obtain⟨xa',xc',rfl⟩:=hg121.val;(apply Ai;rfl);refine Ds (A:=[bx bi Ti (patch li (i*1) [vZ W.2.1.page])]) (h6 (i:=i+1) (j:=((i:Int)+2)) (hrow1) (by rw[Aff];omega) (by omega) (by rw[Aff];omega) DF) (Afj (l₁:=[_,_])) Z (fun v db Lb hlb ⟨ec,h128,ed,hg128⟩=>?_);subst ec;subst ed;obtain⟨za,zc,rfl⟩:=hg128.val;refine⟨_,_,Vs.refl _ _,?_⟩
        apply Cd;refine A7 3 [.bool n.leaf,.slice xa' (n.keys.eraseIdx i).length xc',.slice ya n.vals.length yc,.slice (some ⟨bi,0,none⟩) n.kids.length ci] Z Z Z Z (Aea Z) Z Z ?_;(apply Ai;rfl);refine A7 3 [.bool n.leaf,.slice xa' (n.keys.eraseIdx i).length xc',.slice ya n.vals.length yc,.slice za ((n.kids.set i W.2.1.page).eraseIdx (i+1)).length zc] Z Z Z Z (Aea Z) Z Z ?_;(apply Aa);refine⟨Z,_,{n with keys:=n.keys.eraseIdx i,kids:=(n.kids.set i W.2.1.page).eraseIdx (i+1)},h121,hv,h128,_,_,_,[_,_,_],⟨Z,Z,Z,Z,trivial⟩,⟨_,_,_,Z,hg121,r2.DI hle7,hg128⟩,⟨?_,?_,?_,fun y hy=>?_,hfit.vl⟩,hT,Aei (l₁:=[_]) (l₂:=[_,_]),Z⟩
        ·show(n.keys.eraseIdx i).length≤600;have:=(Aig n.keys i).length_le;omega
        ·have:=hfit.v;show n.vals.length≤600;omega
        ·show((n.kids.set i W.2.1.page).eraseIdx (i+1)).length≤600;have:=(Aig (n.kids.set i W.2.1.page) (i+1)).length_le;rw[Aff] at this;omega
        ·exact hfit.kl y (MW hy)
      ·rintro ρ3 d' L' ⟨hdd,cs',n',hk',hv',hi',x12,x10,x13,Lr,hsl,hn',hfit',hT',hpm,hLL⟩;subst hdd;subst hLL;subst hT';obtain⟨ka',kc',va',vc',ia',ic',rfl⟩:=hn'.cells;refine C1 _ hsl ?_;obtain⟨d8,hl8,v8,hn8⟩:=F3 hn';have hmo:=Hv hG (n:=n') hpg0 hpg1 hfit'.kl;refine Ad<|Am Z<|Ab Z<|Bf 3 Z Z Z<|BS _ _ (Vs.out [_,_,_,_,_] _ hpm v8) ?_;refine AY [_,_,_,_,_] (h3 (k:=k) (hp9.mono hl8) hn8 (hfit'.small (by omega))) Z Z (fun v d9 La hl9 ⟨_,wa,wc,Lb,ea,hka,eb,hpb⟩=>?_);subst ea;subst eb;refine Ao Z Z<|Ao Z Z<|Br 2 Z Z Z Z (Aef _) Z ?_;(refine Ab Z<|Aa<|Ap ?_);exact A4 [mdV (Bk (W.1.drop n.kids[i+1]).1 k n').2.1 wa wc,vZ (Bk (W.1.drop n.kids[i+1]).1 k n').2.2] ⟨AW 2 Z Z Z,Aq Z,trivial⟩ (d':=d9) (L':=tb bt Tt (pZ bp) r h c::Lb) (Vs.drop (.cons _ (.cons _ (.cons _ (.cons _ (.cons _ (Aeb _))))))) ⟨(((hle5.trans hl6).trans hl7).trans hl8).trans hl9,wa,wc,Lb,Z,hka,hmo,Z,hpb⟩
     ·rw[if_pos hde] at hM;rw[hM];refine Cd<|Ab Z<|Aa<|Ad<|Ab Z<|AO Z Z<|Aa<|Aw Z (by omega)<|Ad<|BJ Z<|Ab Z<|Br 2 Z Z Z Z (Aef _) Z ?_;(refine Ab Z<|Aa<|Ap ?_);exact A4 [mdV Cq none 0,vZ (W.1.drop n.kids[i+1]).2] ⟨AW 2 Z Z Z,Aq Z,trivial⟩ (d':=d7) (L':=tb bt Tt (pZ bp) r h c::L9) (Vs.drop (.cons _ (.cons _ (.cons _ (.cons _ (.cons _ (.cons _ (.cons _ (.cons _ (Aeb _)))))))))) ⟨(hle5.trans hl6).trans hl7,none,0,L9,Z,RSl.nil,Eu,Z,hp9⟩
    ·rw[if_pos hwe] at hM;rw[hM];refine Ab Z<|AZ<|Ag<|Ad<|Ab Z<|AO Z Z<|Aa<|Aw Z (by omega)<|Ad<|BJ Z<|Ab Z<|Br 2 Z Z Z Z (Aef _) Z ?_;(refine Ab Z<|Aa<|Ap ?_);exact A4 [mdV Cq none 0,vZ W.2.2] ⟨AW 2 Z Z Z,Aq Z,trivial⟩ (d':=d6) (L':=tb bt Tt (pZ bp) r h c::L8) (Vs.drop (.cons _ (.cons _ (.cons _ (.cons _ (.cons _ (.cons _ (.cons _ (.cons _ (Aeb _)))))))))) ⟨hle5.trans hl6,none,0,L8,Z,RSl.nil,Eu,Z,hp6⟩
   ·rw[if_pos hlf] at hM;rw[hM];refine Bc (congrArg Value.bool (show(true ^^(an.leaf==bn.leaf))=true by cases hq:an.leaf<;>cases hq':bn.leaf<;>simp_all)) ?_;refine Ad<|BJ Z<|Br 2 Z Z Z Z (Aef _) Z ?_;(refine Ab Z<|Aa<|Ap ?_);exact A4 [mdV Cq none 0,vZ 200] ⟨AW 2 Z Z Z,Aq Z,trivial⟩ (d':=d5) (L':=tb bt Tt (pZ bp) r h c::L5) (Vs.drop (.cons _ (.cons _ (.cons _ (.cons _ (.cons _ (.cons _ (.cons _ (Aeb _))))))))) ⟨hle5,none,0,L5,Z,RSl.nil,Eu,Z,hp4.mono hl5⟩
  ·rw[if_pos hbe] at hM;rw[hM];refine Ab Z<|Aa<|Ag<|Ad<|Ab Z<|AO Z Z<|Aa<|Aw Z (by omega)<|Ad<|BJ Z<|Ab Z<|Br 2 Z Z Z Z (Aef _) Z ?_;(refine Ab Z<|Aa<|Ap ?_);exact A4 [mdV Cq none 0,vZ be] ⟨AW 2 Z Z Z,Aq Z,trivial⟩ (d':=d5) (L':=tb bt Tt (pZ bp) r h c::L5) (Vs.drop (.cons _ (.cons _ (.cons _ (.cons _ (.cons _ (.cons _ (.cons _ (Aeb _))))))))) ⟨((hl2.trans hl3).trans hl4).trans hl5,none,0,L5,Z,RSl.nil,Eu,Z,hp4.mono hl5⟩
 ·rw[if_pos hae] at hM;rw[hM];refine Ab Z<|Aa<|Ag<|Ad<|Ab Z<|AO Z Z<|Aa<|Aw Z (by omega)<|Ad<|BJ Z<|Ab Z<|Br 1 Z Z Z Z (Aef _) Z ?_;(refine Ab Z<|Aa<|Ap ?_);exact A4 [mdV Cq none 0,vZ ae] ⟨AW 1 Z Z Z,Aq Z,trivial⟩ (d':=d3) (L':=tb bt Tt (pZ bp) r h c::L3) (Vs.drop (.cons _ (.cons _ (.cons _ (.cons _ (.cons _ (.cons _ (Aeb _)))))))) ⟨hl2.trans hl3,none,0,L3,Z,RSl.nil,Eu,Z,⟨tc1,hp2.mono hl3⟩⟩
def P9(P:Program)(f:FuncId):Prop:=∀(x:Nat) {d s dv pv w L}{bt:Nat}{Tt}{r h c k:Int}{key},x≤1000000→PgT d s dv pv L→AJ d w key→ -1≤k→k≤16384→(B3 s k key (x+1)).2.2.2≠99999→
 AA P f [pZ bt,vZ k,vZ ((x+1:Nat):Int),w] d (tb bt Tt pv r h c::L) (Ret fun v d' L'=>Le d d'∧∃ua uc L2,v=.tuple #[mdV (B3 s k key (x+1)).2.1 ua uc,.bool (B3 s k key (x+1)).2.2.1,vZ (B3 s k key (x+1)).2.2.2]∧
  AJ d' (.slice ua (B3 s k key (x+1)).2.1.key.length uc) (B3 s k key (x+1)).2.1.key∧MOk (B3 s k key (x+1)).2.1∧L'=tb bt Tt pv r h c::L2∧PgT d' (B3 s k key (x+1)).1 dv pv L2)
def MH(a0 a1 a2 a3 a4 a5 a6 a7:Nat):A0:=⟨139,[(.cell 8 (some 4)),(.tmp 9),(.tmp 10)],(sR (o1 8 (.alo (.agg #[(vZ 0),(vZ 0),nV,(vZ 0)]))<|o1 9 (.mv (.const (.bool false)))<|o1 10 (.mv z0) .done) (sR (om 24 0<|om 25 1<|om 26 2<|oc 27 a0 [24,25,26]<|om 23 27<|oe 28 23 0<|oe 29 23 1<|o1 11 (.alo (.agg #[(.bool false),nV,nV,nV]))<|o0 (.st 4 11 28)<|om 12 29 .done) (.seq (sR (om 30 12<|ob 31 .neq 30 z0 .done) (.cond 31 (sR (o1 32 (.bld [(0,1),(1,1),(2,1),(3,1)] [(vZ 0),(vZ 0),nV,(vZ 0)] [])<|om 33 12<|o0 (.st 4 8 32)<|o1 9 (.mv (.const (.bool false)))<|om 10 33 .done) .ret) .skip)) (sR (o1 35 (.ld (some 4) 11)<|om 36 3<|oc 37 a1 [35,36]<|om 34 37<|oe 38 34 0<|oe 39 34 1<|om 13 38<|om 14 39 .done) (.seq (sR (om 40 2<|ob 41 .eql 40 z1 .done) (.cond 41 (.seq (sR (om 42 14<|o1 43 (.un .not 42) .done) (.cond 43 (sR (om 44 1<|o1 45 (.bld [(0,1),(1,1),(2,1),(3,1)] [(vZ 0),(vZ 0),nV,(vZ 0)] [(0,44),(1,(kZ (-1))),(3,(kZ 256))])<|o0 (.st 4 8 45)<|o1 9 (.mv (.const (.bool false)))<|o1 10 (.mv z0) .done) .ret) .skip)) (.seq (sR (om 46 0<|oj 47 2 11<|ol 48 47<|om 49 13<|oI 50 1 48 49<|ol 51 50<|oc 52 a2 [46,51]<|om 15 52 .done) (sR (om 53 15<|ob 54 .neq 53 z0 .done) (.cond 54 (sR (o1 55 (.bld [(0,1),(1,1),(2,1),(3,1)] [(vZ 0),(vZ 0),nV,(vZ 0)] [])<|om 56 15<|o0 (.st 4 8 55)<|o1 9 (.mv (.const (.bool false)))<|om 10 56 .done) .ret) .skip))) (.seq (.reg true (p1 57 (.fld 1 11)<|pl 58 57<|pm 59 13<|pm 60 13<|p1 61 (.bin .add 60 z1)<|p1 63 (.fld 2 11)<|pl 64 63<|pm 65 13<|pm 66 13<|p1 67 (.bin .add 66 z1)<|oc 62 a3 [58,59,61]<|p1 69 (.fld 1 11)<|oc 68 a3 [64,65,67] (.bar (o0 (.st 1 69 62) (p1 70 (.fld 2 11) (o0 (.st 1 70 68) .done)))))) (sR (om 72 0<|om 73 1<|o1 74 (.ld (some 4) 11)<|oc 75 a4 [72,73,74]<|om 71 75<|oe 76 71 0<|oe 77 71 1<|o1 16 (.alo (.agg #[(vZ 0),(vZ 0),nV,(vZ 0)]))<|o0 (.st 4 16 76)<|om 17 77 .done) (sR (o1 78 (.ld (some 4) 16)<|om 79 17<|o0 (.st 4 8 78)<|o1 9 (.mv (.const (.bool true)))<|om 10 79 .done) .ret))))) .skip)) (sR (om 81 0<|oj 82 3 11<|ol 83 82<|om 84 13<|oI 85 1 83 84<|ol 86 85<|om 87 2<|ob 88 .sub 87 z1<|om 89 3<|oc 90 a5 [81,86,88,89]<|om 80 90<|oe 91 80 0<|oe 92 80 1<|oe 93 80 2<|o1 18 (.alo (.agg #[(vZ 0),(vZ 0),nV,(vZ 0)]))<|o0 (.st 4 18 91)<|om 19 92<|om 12 93 .done) (.seq (sR (om 94 12<|ob 95 .neq 94 z0<|om 96 95<|gF 97 96 19<|oF 98 96 (.un .not 97)<|o1 99 (.pick 96 (.const (.bool true)) 98) .done) (.cond 99 (sR (om 100 1<|o1 101 (.bld [(0,1),(1,1),(2,1),(3,1)] [(vZ 0),(vZ 0),nV,(vZ 0)] [(0,100),(1,(kZ (-1))),(3,(kZ 256))])<|om 102 19<|om 103 12<|o0 (.st 4 8 101)<|om 9 102<|om 10 103 .done) .ret) .skip)) (.seq (sR (oj 104 1 18<|ol 105 104<|ob 106 .lss 105 z0<|om 107 106<|oT 108 107 (.fld 3 18)<|oT 109 107 (.ld none 108)<|oT 110 107 (.bin .lss 109 (kZ 80))<|gP 111 107 110 .done) (.cond 111 (sR (oj 112 3 11<|ol 113 112<|om 114 13<|oj 115 0 18<|ol 116 115<|oI 117 1 113 114<|o0 (.st 1 117 116) .done) (sR (om 119 0<|om 120 1<|o1 121 (.ld (some 4) 11)<|om 122 13<|oc 123 a6 [119,120,121,122]<|om 118 123<|oe 124 118 0<|oe 125 118 1<|o1 20 (.alo (.agg #[(vZ 0),(vZ 0),nV,(vZ 0)]))<|o0 (.st 4 20 124)<|om 21 125 .done) (sR (o1 126 (.ld (some 4) 20)<|om 127 21<|o0 (.st 4 8 126)<|o1 9 (.mv (.const (.bool true)))<|om 10 127 .done) .ret))) .skip)) (sR (om 129 0<|om 130 1<|o1 131 (.ld (some 4) 11)<|om 132 13<|o1 133 (.ld (some 4) 18)<|oc 134 a7 [129,130,131,132,133]<|om 128 134<|oe 135 128 0<|oe 136 128 1<|o1 22 (.alo (.agg #[(vZ 0),(vZ 0),nV,(vZ 0)]))<|o0 (.st 4 22 135)<|om 12 136 .done) (sR (o1 137 (.ld (some 4) 22)<|om 138 12<|o0 (.st 4 8 137)<|o1 9 (.mv (.const (.bool true)))<|om 10 138 .done) .ret))))))))))⟩
set_option maxRecDepth 4000 in
set_option maxHeartbeats 8000000 in
def Xv{P f f4 f5 f7 f8}(hd:I4 P f=some (MH f1 f2 f3 f4 f5 f f7 f8))(h1:Hk P f1)(h2:HR P f2 findD)(h3:Kk P f3)(h4:Ix RBs P f4)(h5:Hg P f5)(h7:Nq P f7)(h8:I6 P f8):P9 P f:=by
 intro x;induction x using Nat.strongRecOn with
 |ind x ih=>
 intro d s dv pv w L bt Tt r h c k key hx hp hw hk0 hk1 hnp;obtain⟨bp,rfl⟩:=hp.ptr;have hG:=hp.EL;obtain⟨tc0,hp⟩:=hp;obtain⟨wa,wc,rfl⟩:=hw.val;refine AG hd (Aea Z) ?_;show gwp P _ _ _ _ _;apply Ag;apply AE;refine BP (fun b10 T10=>?_);refine Ae Z<|Ab Z<|Aa<|Ad<|Am Z<|Ab Z<|Ab Z<|AY [_] (h1 (k:=k) (x:=((x+1:Nat):Int)) hp) Z Z (fun v d2 L2 hl ⟨_,cs,hk,hv,hi,L3,tc,e1,e2,hn,hp2,htc⟩=>?_);subst e1;subst e2;have hp2:PgT d2 s dv (pZ bp) L3:=⟨tc,hp2⟩
 rw[show AX {s with tc:=tc0} k ((x+1:Nat):Int)=AX s k ((x+1:Nat):Int) from Z] at hn⊢;obtain⟨ka,kc,va,vc,ia,ic,rfl⟩:=hn.cells;(refine AT Z<|Ao Z Z<|Ao Z Z<|BP (fun _ _=>?_));rename_i b13 T13;refine Br 0 Z Z Z Z (Aef _) Z ?_;by_cases he:(AX s k ((x+1:Nat):Int)).2=0
 ·obtain⟨hr,hlf⟩:=HB he;obtain⟨n,hne⟩:∃n,(AX s k ((x+1:Nat):Int)).1=n:=⟨_,Z⟩
  rw[hne] at hn hr hlf⊢;obtain⟨hfit,hk64⟩:=HP hr;obtain⟨i,b,hfd⟩:∃i b,findD n key=(i,b):=⟨_,_,Z⟩
  have hile:i≤n.keys.length:=by have:=KK (n:=n) (key:=key);rw[hfd] at this;exact this
  rw[he];have hw2:=RSl.mono (R:=AH) AL hw hl;have hlv:n.leaf=true→n.vals.length=n.keys.length:=Im hr;have hli:n.leaf=false→n.kids.length=n.keys.length+1:=Hc hr;have hkd:=Se hr;clear hr;have hnk:=hn;obtain⟨kv,vv,iv,q,r1,r2,r3⟩:=hn;cases q;refine Ab Z<|Aa<|Ag<|Ad<|Ab Z<|AO Z Z<|Aa<|Ar Z (by omega)<|Ak<|Ad<|Bf 0 Z Z Z<|Aj Z<|Iz Z (v:=.tuple #[vZ i,.bool b]) (fun d1 hl1 hk1=>by
   have:=h2 (D4.JD ⟨_,_,_,Z,r1,r2,r3⟩ hl1 (hk1 _ (by simp)) (hk1 _ (by simp)) (hk1 _ (by simp))) (RSl.mono (R:=AH) AL hw2 hl1);rw[hfd] at this;exact this) ?_
  (refine AT Z<|Ao Z Z<|Ao Z Z<|Ab Z<|Ae Z<|Aa ?_);apply Ag;apply Ag;apply AE;(refine Ab Z<|AN Z Z<|Aa ?_);by_cases hx0:x=0
  ·subst hx0;have hvl:=hlv (by rw[hlf];rfl);clear hlv hli hlf;refine Aw Z (by omega) ?_;cases b with
   |true=>
    have hilt:i<n.keys.length:=by have:=OM (n:=n) (key:=key) (by rw[hfd]);rw[hfd] at this;exact this
    have hiv:i<n.vals.length:=by omega
    have hI:=WO he hne hfd
    have hgv:n.vals.getD i []=n.vals[i]:=by rw[Aee,Aed hiv];rfl
    rw[hgv] at hI
    obtain⟨b1,T1,l1,c1,cs1,q1,rfl,hcl1,hcs,hle1,⟨u,rfl,hu⟩, -⟩:=As.at (by omega) r2 hiv
    cases q1
    have c0:=hcs 0 _ Z
    have hfk:=hfit.k
    have hfv:=hfit.v
    (refine Ag<|Ad<|Ae Z<|Bn Z<|Aa<|AS Z<|Ak<|Ag<|Ad<|Am Z<|Ai Z<|Ah Z (Al 0 Z Z)<|Ab Z<|BD _ Z Z Z (by omega)<|Ah Z (Al 3 Z (by assumption)) ?_)
    refine AY [_,_,_,_,_] (h3 hp2 hu) Z Z (fun v d3 L4 hl3 ⟨_,e3,L5,e4,hp5⟩=>?_)
    subst e3;subst e4
    by_cases hz:(BY s n.vals[i]).2=0
    ·rw[if_neg (fun q=>q hz)] at hI
     rw[hI,hz]
     clear hnp
     (refine Ab Z<|Aa<|Ad<|Ab Z<|AO Z Z<|Aa<|Ar Z (by omega)<|Ak<|Ag ?_)
     refine Bw [_,_] (hk::bx b1 T1 l1::hi::tb bt Tt (pZ bp) r h c::L5) Z ?_
     (refine Ai Z<|Ah Z (Al 0 Z Z)<|Ab Z<|Ab Z<|AM Z Z (by omega) (by omega)<|Ai Z<|Ah Z (Al 0 Z Z)<|Ab Z<|Ab Z<|AM Z Z (by omega) (by omega) ?_)
     refine DY (A:=[_]) Z Z (h4 (r1.DI hl3) hilt Z (by omega) E6) (fun v da La hla ⟨ea,h62,eb,hg62⟩=>?_)
     subst ea;subst eb
     obtain⟨xa',xc',rfl⟩:=hg62.val
     (apply Ai;rfl)
     refine Ds (A:=[bx b1 T1 l1]) (h4 (i:=i) (j:=((i:Int)+1)) (r2.DI hl3) hiv Z (by omega) E6) (Afj (l₁:=[_])) Z (fun v db Lb hlb ⟨ec,h68,ed,hg68⟩=>?_)
     subst ec;subst ed
     obtain⟨za,zc,rfl⟩:=hg68.val
     refine⟨_,_,Vs.refl _ _,?_⟩
     apply Cd
     refine A7 0 [.bool n.leaf,.slice xa' (n.keys.eraseIdx i).length xc',.slice (some ⟨b1,0,none⟩) n.vals.length vc,.slice ia n.kids.length ic] Z Z Z Z (Aea Z) Z Z ?_
     (apply Ai;rfl)
     refine A7 0 [.bool n.leaf,.slice xa' (n.keys.eraseIdx i).length xc',.slice za (n.vals.eraseIdx i).length zc,.slice ia n.kids.length ic] Z Z Z Z (Aea Z) Z Z ?_
     (refine Aa<|Ad<|Am Z<|Ab Z<|Bf 0 Z Z Z ?_)
     have hn':D4 db [.bool n.leaf,.slice xa' (n.keys.eraseIdx i).length xc',.slice za (n.vals.eraseIdx i).length zc,.slice ia n.kids.length ic] {n with keys:=n.keys.eraseIdx i,vals:=n.vals.eraseIdx i} h62 h68 hi:=⟨_,_,_,Z,hg62,hg68,r3.JF hl3⟩
     obtain⟨d8,hl8,v8,hn8⟩:=F3 hn'
     have hfit':Fit {n with keys:=n.keys.eraseIdx i,vals:=n.vals.eraseIdx i} 600:=by
      have e1:=(Aig n.keys i).length_le;have e2:=(Aig n.vals i).length_le;have e3:=hfit.i;exact⟨show(n.keys.eraseIdx i).length≤600 by omega,show(n.vals.eraseIdx i).length≤600 by omega,show n.kids.length≤600 by omega,fun y hy=>hfit.kl y (MW hy),fun y hy=>hfit.vl y (MW hy)⟩
     have hmo:=Hv hp5.EL (n:={n with keys:=n.keys.eraseIdx i,vals:=n.vals.eraseIdx i}) hk0 hk1 hfit'.kl
     refine BS _ _ (Vs.out (M:=[_,_,_]) [_,_] _ (Afa _ _ _) v8) ?_
     refine AY [_,_] (h5 (k:=k) (hp5.mono hl8) hn8 (hfit'.small (by omega))) Z Z (fun v d9 Lc hl9 ⟨_,ua,uc,L6,e5,hk5,e6,hp6⟩=>?_)
     subst e5;subst e6
     (refine AT Z<|Ao Z Z<|Ao Z Z<|BP (fun _ _=>?_))
     rename_i b18 T18
     refine Br 0 Z Z Z Z (Aef _) Z ?_
     (refine Ab Z<|Aa<|Ad<|Bf 0 Z Z Z<|Ab Z ?_)
     refine Br 2 Z Z Z Z (Aef _) Z ?_
     (refine Ae Z<|Ab Z<|Aa<|Ap ?_)
     exact A4 [mdV (Bk (BY s n.vals[i]).1 k {n with keys:=n.keys.eraseIdx i,vals:=n.vals.eraseIdx i}).2.1 ua uc,.bool true,vZ (Bk (BY s n.vals[i]).1 k {n with keys:=n.keys.eraseIdx i,vals:=n.vals.eraseIdx i}).2.2] ⟨AW 2 Z Z Z,Aq Z,Aq Z,trivial⟩ (d':=d9) (L':=tb bt Tt (pZ bp) r h c::L6) (Vs.drop (.cons _ (.cons _ (.cons _ (Aeb _))))) ⟨((hl.trans hl3).trans hl8).trans hl9,ua,uc,L6,Z,hk5,hmo,Z,hp6⟩
    ·rw[if_pos hz] at hI
     rw[hI]
     clear hnp
     (refine Ab Z<|Aa<|Ad<|Ab Z<|AO Z Z<|Aa<|Aw Z (by omega)<|Ad<|BJ Z<|Ab Z ?_)
     refine Br 1 Z Z Z Z (Aef _) Z ?_
     (refine Ae Z<|Ab Z<|Aa<|Ap ?_)
     exact A4 [mdV Cq none 0,.bool false,vZ (BY s n.vals[i]).2] ⟨AW 1 Z Z Z,Aq Z,Aq Z,trivial⟩ (d':=d3) (L':=tb bt Tt (pZ bp) r h c::L5) (Vs.drop (.cons _ (.cons _ (.cons _ (.cons _ (.cons _ (Aeb _))))))) ⟨hl.trans hl3,none,0,L5,Z,RSl.nil,Eu,Z,hp5⟩
   |false=>
    have hI:=WB he hne hfd
    rw[hI]
    clear hnp
    (refine Ag<|Ad<|Ae Z<|Bn Z<|Aa<|Bc Z<|Ad<|Ab Z<|BJ Z ?_)
    refine Br 1 Z Z Z Z (Aef _) Z ?_
    (refine Ae Z<|Ab Z<|Aa<|Ap ?_)
    exact A4 [mdV ⟨k, -1,[],256⟩ none 0,.bool false,vZ 0] ⟨AW 1 Z Z Z,Aq Z,Aq Z,trivial⟩ (d':=d2) (L':=tb bt Tt (pZ bp) r h c::L3) (Vs.drop (.cons _ (.cons _ (.cons _ (.cons _ (.cons _ (Aeb _))))))) ⟨hl,none,0,L3,Z,RSl.nil,⟨hk0,hk1,(by decide:(-1:Int)≤ -1),(by decide:(-1:Int)≤16384),Aez _⟩,Z,hp2⟩
  ·obtain⟨x,rfl⟩:∃y,x=y+1:=⟨x - 1,by omega⟩
   have hil:=hli (by rw[hlf];simp;omega);clear hlv hli hlf;have hii:i<n.kids.length:=by omega
   have hgk:n.kids.getD i 0=n.kids[i]:=by rw[Aee,Aed hii];rfl
   have hI:=PK (key:=key) he hne hfd (u:=B3 s n.kids[i] key (x+1)) (by rw[hgk]);have hkb:=hkd _ (Aey hii);have hnk0:=hnk;obtain⟨b1,T1,l1,c1,cs1,q1,rfl,hcl1,hcs,hle1,⟨rfl,hb1,hb2⟩,hset⟩:=As.at (by omega) r3 hii;cases q1;have c0:=hcs 0 _ Z;have hnp':(B3 s n.kids[i] key (x+1)).2.2.2≠99999:=by
    intro q;rw[hI,if_pos (.inl (by rw[q];decide))] at hnp;exact hnp q
   refine Ar Z (by omega) ?_;refine Ak<|Ad<|Am Z<|Ai Z<|Ah Z (Al 0 Z Z)<|Ab Z<|BD _ Z Z Z (by omega)<|Ah Z (Al 4 Z (by assumption))<|Ab Z<|CV Z Z (by omega) (by omega)<|Aj Z<|EN (g:=88) (v:=vZ ((x+1:Nat):Int)) (congrArg (Value.int .i64) (by push_cast;omega)) ?_;skip;refine AY [_,_,_,_,_] (ih x (Nat.lt_succ_self x) (k:=n.kids[i]) (by omega) hp2 hw2 (by omega) (by omega) hnp') Z Z (fun v d3 L4 hl3 ⟨_,ua,uc,L5,e3,hk3,hm3,e4,hp5⟩=>?_);subst e3;subst e4;generalize B3 s n.kids[i] key (x+1)=U at hI hk3 hm3 hp5;clear hnp';rw[hI] at hnp⊢;(refine AT Z<|Ao Z Z<|Ao Z Z<|Ao Z Z<|BP (fun _ _=>?_));rename_i b20 T20;refine Br 0 Z Z Z Z (Aef _) Z ?_;obtain⟨us,um,uw,ue⟩:=U;simp only at hI hk3 hm3 hp5 hnp⊢;clear hI;by_cases hz:ue=0
   ·subst hz;cases uw with
    |true=>
     rw[if_neg (by simp)] at hnp⊢
     have hmo1:=hm3.p0
     have hmo2:=hm3.p1
     by_cases hc:um.other<0∧um.size<80
     ·rw[if_pos hc] at hnp⊢
      have hkl1:1≤n.keys.length:=by
       refine Classical.byContradiction fun q=>hnp ?_;show(DW us k {n with kids:=n.kids.set i um.page} i).2.2=99999;unfold DW;rw[if_pos (show n.keys.length=0 by omega)]
      clear hnp
      obtain⟨hc1,hc2⟩:=hc
      have hrow:=hset [vZ um.page] um.page Z ⟨Z,by omega,by omega⟩
      have hkb2:∀y∈n.kids.set i um.page, -1≤y∧y≤16384:=fun y hy=>by
       rcases Rm hy with rfl|hy
       ·omega
       ·have:=hkd y hy;omega
      (refine Ae Z<|Ab Z<|Aa<|Ag<|Ad<|Ab Z<|AO Z Z<|Ae Z<|A3 Z (by omega)<|Af Z<|Ae Z<|Af Z<|Bn Z<|Au Z Z<|Aa<|AS Z<|Ak<|Ag<|Ad<|Ai Z<|Ah Z (Al 0 Z Z)<|AB Z Z<|Ae Z<|A8 Z (by omega)<|Af Z<|Ai Z<|Af Z<|Ah Z (Al 0 Z Z)<|Af Z<|AB Z Z<|Ay Z Z<|Aa<|Aw Z (by omega)<|Ad<|Ai Z<|Ah Z (Al 1 Z Z)<|Ab Z<|Ai Z<|Ah Z (Al 0 Z Z)<|BD _ Z Z Z (by omega) ?_)
      refine A7 5 (patch l1 (i*1) [vZ um.page]) Z Z Z Z (by omega) Z Z ?_
      (refine Aa<|Ad<|Am Z<|Ab Z<|Bf 1 Z Z Z<|Ab Z ?_)
      refine AY [_,_,_] (h7 (k:=k) (n:={n with kids:=n.kids.set i um.page}) (i:=i) hp5 ⟨_,_,_,by show _=[Value.bool n.leaf,_,_,_];rfl,r1.DI hl3,r2.DI hl3,hrow.JF hl3⟩
       ⟨by have:=hfit.k;show n.keys.length≤400;omega,by have:=hfit.v;show n.vals.length≤400;omega,by have:=hfit.i;show(n.kids.set i um.page).length≤400;rw[Aff];omega,hfit.kl,hfit.vl⟩ hkl1 (by show(n.kids.set i um.page).length=_;rw[Aff];exact hil) hile
       hkb2 hk0 hk1) Z Z (fun v d6 L6 hl6 ⟨_,ua',uc',L7,e6,hk6,hmm,e7,hp7⟩=>?_)
      subst e6;subst e7
      (refine AT Z<|Ao Z Z<|Ao Z Z<|BP (fun _ _=>?_))
      rename_i b22 T22
      refine Br 0 Z Z Z Z (Aef _) Z ?_
      (refine Ab Z<|Aa<|Ad<|Bf 0 Z Z Z<|Ab Z ?_)
      refine Br 3 Z Z Z Z (Aef _) Z ?_
      (refine Ae Z<|Ab Z<|Aa<|Ap ?_)
      exact A4 [mdV (DW us k {n with kids:=n.kids.set i um.page} i).2.1 ua' uc',.bool true,vZ (DW us k {n with kids:=n.kids.set i um.page} i).2.2] ⟨AW 3 Z Z Z,Aq Z,Aq Z,trivial⟩ (d':=d6) (L':=tb bt Tt (pZ bp) r h c::L7) (Vs.drop (.cons _ (.cons _ (.cons _ (.cons _ (Aeb _)))))) ⟨(hl.trans hl3).trans hl6,ua',uc',L7,Z,hk6,hmm,Z,hp7⟩
     ·rw[if_neg hc] at hnp⊢
      clear hnp
      have hmo:=R8 hp5.EL (n:=n) (i:=i) hk0 hk1 hfit.kl hm3
      (refine Ae Z<|Ab Z<|Aa ?_)
      apply Ag;apply Ag;apply AE
      (refine Ab Z<|AO Z Z<|Ae Z<|A3 Z (by omega)<|Af Z<|Ae Z<|Af Z<|Bn Z<|Au Z Z<|Aa ?_)
      apply AS;rfl;apply Ak
      refine Gw (fun ρ d' L'=>BG ρ [(0,pZ bt),(1,vZ k),(13,vZ i),(11,pZ b13),(18,pZ b20),(8,pZ b10)]∧d3=d'∧
       L'=bx b20 T20 [vZ um.page,vZ um.other,.slice ua um.key.length uc,vZ um.size]::bx b13 T13 [.bool n.leaf,.slice ka n.keys.length kc,.slice va n.vals.length vc,.slice (some ⟨b1,0,none⟩) n.kids.length ic]::bx b10 T10 [vZ 0,vZ 0,nV,vZ 0]::hk::hv::bx b1 T1 l1::tb bt Tt (pZ bp) r h c::L5) ?_ ?_
      ·by_cases ho:um.other<0
       ·have hsz:¬um.size<80:=fun q=>hc ⟨ho,q⟩
        (refine Ad<|Ai Z<|Ah Z (Al 0 Z Z)<|AB Z Z<|Ae Z<|A8 Z (by omega)<|Af Z<|Ai Z<|Af Z<|Ah Z (Al 0 Z Z)<|Af Z<|AB Z Z<|Ay Z Z<|Aa<|Ar Z (by omega)<|Ak ?_)
        exact⟨⟨Z,Z,Z,Z,Z,Z,trivial⟩,Z,Z⟩
       ·(refine Ad<|Ai Z<|Ah Z (Al 0 Z Z)<|AB Z Z<|Ae Z<|A3 Z (by omega)<|An Z<|An Z<|An Z<|Au Z Z<|Aa<|AS Z<|Ak ?_)
        exact⟨⟨Z,Z,Z,Z,Z,Z,trivial⟩,Z,Z⟩
      ·rintro ρ d' L' ⟨hsl,hdd,hLL⟩
       subst hdd;subst hLL
       refine C1 _ hsl ?_
       (refine Ad<|Am Z<|Ab Z<|Bf 1 Z Z Z<|Ab Z<|Bf 0 Z Z Z ?_)
       refine AY [_,_,_] (h8 (k:=k) (n:=n) (i:=i) (m:=um) hp5 (hnk0.mono hl3) ⟨by have:=hfit.k;omega,by have:=hfit.v;omega,by have:=hfit.i;omega,hfit.kl,hfit.vl⟩ hii (fun _=>hile) hm3 hk3) Z Z (fun v d6 L6 hl6 ⟨_,ua',uc',L7,e6,hk6,e7,hp7⟩=>?_)
       subst e6;subst e7
       (refine AT Z<|Ao Z Z<|Ao Z Z<|BP (fun _ _=>?_))
       rename_i b22 T22
       refine Br 0 Z Z Z Z (Aef _) Z ?_
       (refine Ab Z<|Aa<|Ad<|Bf 0 Z Z Z<|Ab Z ?_)
       refine Br 3 Z Z Z Z (Aef _) Z ?_
       (refine Ae Z<|Ab Z<|Aa<|Ap ?_)
       exact A4 [mdV (Ct us k n i um).2.1 ua' uc',.bool true,vZ (Ct us k n i um).2.2] ⟨AW 3 Z Z Z,Aq Z,Aq Z,trivial⟩ (d':=d6) (L':=tb bt Tt (pZ bp) r h c::L7) (Vs.drop (.cons _ (.cons _ (.cons _ (.cons _ (Aeb _)))))) ⟨(hl.trans hl3).trans hl6,ua',uc',L7,Z,hk6,hmo,Z,hp7⟩
    |false=>
     rw[if_pos (.inr Z)]
     clear hnp
     (refine Ae Z<|Ab Z<|Aa<|Ag<|Ad<|Ab Z<|AO Z Z<|Ae Z<|A3 Z (by omega)<|Af Z<|Ae Z<|Af Z<|Bn Z<|Au Z Z<|Aa<|Bc Z<|Ad<|Ab Z<|BJ Z<|Ae Z<|Ab Z ?_)
     refine Br 2 Z Z Z Z (Aef _) Z ?_
     (refine Ae Z<|Ab Z<|Aa<|Ap ?_)
     exact A4 [mdV ⟨k, -1,[],256⟩ none 0,.bool false,vZ 0] ⟨AW 2 Z Z Z,Aq Z,Aq Z,trivial⟩ (d':=d3) (L':=tb bt Tt (pZ bp) r h c::L5) (Vs.drop (.cons _ (.cons _ (.cons _ (.cons _ (.cons _ (.cons _ (Aeb _)))))))) ⟨hl.trans hl3,none,0,L5,Z,RSl.nil,⟨hk0,hk1,(by decide:(-1:Int)≤ -1),(by decide:(-1:Int)≤16384),Aez _⟩,Z,hp5⟩
   ·rw[if_pos (.inl hz)];clear hnp;refine Ae Z<|Ab Z<|Aa<|Ag<|Ad<|Ab Z<|AO Z Z<|Ae Z<|A8 Z (by omega)<|An Z<|An Z<|Ay Z Z<|Aa<|Bc Z<|Ad<|Ab Z<|BJ Z<|Ae Z<|Ab Z<|Br 2 Z Z Z Z (Aef _) Z ?_;(refine Ae Z<|Ab Z<|Aa<|Ap ?_);exact A4 [mdV ⟨k, -1,[],256⟩ none 0,.bool uw,vZ ue] ⟨AW 2 Z Z Z,Aq Z,Aq Z,trivial⟩ (d':=d3) (L':=tb bt Tt (pZ bp) r h c::L5) (Vs.drop (.cons _ (.cons _ (.cons _ (.cons _ (.cons _ (.cons _ (Aeb _)))))))) ⟨hl.trans hl3,none,0,L5,Z,RSl.nil,⟨hk0,hk1,(by decide:(-1:Int)≤ -1),(by decide:(-1:Int)≤16384),Aez _⟩,Z,hp5⟩
 ·rw[Aba he];clear hnp;refine Ab Z<|Aa<|Ag<|Ad<|Ab Z<|AO Z Z<|Aa<|Aw Z (by omega)<|Ad<|BJ Z<|Ab Z<|Br 1 Z Z Z Z (Aef _) Z ?_;(refine Ae Z<|Ab Z<|Aa<|Ap ?_);exact A4 [mdV Cq none 0,.bool false,vZ (AX s k ((x+1:Nat):Int)).2] ⟨AW 1 Z Z Z,Aq Z,Aq Z,trivial⟩ (d':=d2) (L':=tb bt Tt (pZ bp) r h c::L3) (Vs.drop (.cons _ (.cons _ (.cons _ (.cons _ (.cons _ (Aeb _))))))) ⟨hl,none,0,L3,Z,RSl.nil,Eu,Z,hp2⟩
structure AaV (t:TD) (key:List UInt8):Prop where
 far:QS t
 np:t.height≠0→(B3 t.s t.root key t.height).2.2.2≠99999
 c:t.height≠0→1≤t.count
 hh:(CU {t with s:=(B3 t.s t.root key t.height).1,count:=t.count - 1} (B3 t.s t.root key t.height).2.1).1.height≠0∨t.height=0
def Nv(P:Program)(f:FuncId):Prop:=∀{d}{t:TD}{dv pv L}{bt b2 b3 b7:Nat}{Tt T2 T3 T7 ka}{kc:Nat}{key},PgT d t.s dv pv L→AJ d (.slice ka key.length kc) key→AaV t key→
 AA P f [pZ b2,pZ b3,pZ b7] d (tbD bt Tt pv t::([bx b2 T2 [pZ bt],bx b3 T3 [.slice ka key.length kc],bx b7 T7 [.bool false]]++L))
  (Ret fun v d' L'=>Le d d'∧v=vZ (BX t key).2.2∧∃L2,L'=tbD bt Tt pv (BX t key).1::([bx b2 T2 [pZ bt],bx b3 T3 [.slice ka key.length kc],bx b7 T7 [.bool (BX t key).2.1]]++L2)∧PgT d' (BX t key).1.s dv pv L2)
def N3(a0 a1 a2:Nat):A0:=⟨50,[(.tmp 3)],(sR (o1 3 (.mv z0) .done) (.seq (sR (ol 8 0<|o1 9 (.nilc 8)<|oj 10 2 9<|ol 11 10<|ob 12 .eql 11 z0 .done) (.cond 12 (sR (o1 3 (.mv z0) .done) .ret) .skip)) (.seq (.reg true (pl 14 0<|pl 15 0<|p1 16 (.nilc 15)<|p1 17 (.fld 1 16)<|pl 18 17<|pl 19 0<|p1 20 (.nilc 19)<|p1 21 (.fld 2 20)<|pl 22 21<|pl 23 1 (.par (o1 4 (.alo (.agg #[(vZ 0),(vZ 0),nV,(vZ 0)])) .done) (oc 24 a0 [14,18,22,23] (pm 13 24 (p1 25 (.ext 13 0) (p1 26 (.ext 13 1) (p1 27 (.ext 13 2) .done))))) (o0 (.st 4 4 25) (pm 5 26 (pm 6 27 .done)))))) (.seq (sR (om 28 6<|ob 29 .neq 28 z0<|om 30 29<|gF 31 30 5<|oF 32 30 (.un .not 31)<|o1 33 (.pick 30 (.const (.bool true)) 32) .done) (.cond 33 (sR (om 34 6<|om 3 34 .done) .ret) .skip)) (sR (o0 (.st 1 2 (.const (.bool true))) .done) (sR (ol 35 0<|o1 36 (.nilc 35)<|oj 37 3 36<|ol 38 37<|ob 39 .sub 38 z1<|o1 40 (.nilc 35)<|oj 41 3 40<|o0 (.st 1 41 39) .done) (.seq (sR (ol 42 0<|o1 43 (.ld (some 4) 4)<|oc 44 a1 [42,43]<|om 7 44 .done) (sR (om 45 7<|ob 46 .neq 45 z0 .done) (.cond 46 (sR (om 47 7<|om 3 47 .done) .ret) .skip))) (sR (ol 48 0<|oc 49 a2 [48]<|om 3 49 .done) .ret))))))))⟩
set_option maxRecDepth 4000 in
set_option maxHeartbeats 4000000 in
def UI{P f}(hd:I4 P f=some (N3 f1 f2 f3))(h1:P9 P f1)(h2:II P f2)(h3:Jo P f3):Nv P f:=by
 intro d t dv pv L bt b2 b3 b7 Tt T2 T3 T7 ka kc key hp hk hcan;obtain⟨bp,rfl⟩:=hp.ptr;obtain⟨s,root,height,count⟩:=t;obtain⟨hr0,hr1,hh,hc⟩:=hcan.far;simp only at hp hr0 hr1 hh hc;refine AG hd (Aea Z) ?_;show gwp P _ _ _ _ _;apply Ag;apply AE;refine BS d ([bx b2 T2 [pZ bt],bx b3 T3 [.slice ka key.length kc],bx b7 T7 [.bool false]]++tb bt Tt (pZ bp) root height count::L) (Vs.perm List.perm_middle.symm) ?_;by_cases hh0:height=0
 ·subst hh0;have hF:BX ⟨s,root,0,count⟩ key=(⟨s,root,0,count⟩,false,0):=by unfold BX;rw[if_pos Z]
  rw[hF];(refine Ab Z<|Aa<|Ag<|Ad<|Ah Z (Al 0 Z Z)<|AF Z<|Ai Z<|Ah Z (Al 3 Z Z)<|AN Z Z<|Aa<|Aw Z (by omega)<|Ad<|Ab Z<|Aa<|Ap ?_);exact A4 [vZ 0] ⟨Aq Z,trivial⟩ (d':=d) (L':=tbD bt Tt (pZ bp) ⟨s,root,0,count⟩::([bx b2 T2 [pZ bt],bx b3 T3 [.slice ka key.length kc],bx b7 T7 [.bool false]]++L)) (Vs.perm (Afj (a:=tbD bt Tt (pZ bp) ⟨s,root,0,count⟩) (l₁:=[bx b2 T2 [pZ bt],bx b3 T3 [.slice ka key.length kc],bx b7 T7 [.bool false]]) (l₂:=L))) ⟨Le.refl _,Z,L,Z,hp⟩
 ·have hF:BX ⟨s,root,height,count⟩ key=if (B3 s root key height).2.2.2≠0∨(B3 s root key height).2.2.1=false then(⟨(B3 s root key height).1,root,height,count⟩,false,(B3 s root key height).2.2.2) else
    if (CU ⟨(B3 s root key height).1,root,height,count - 1⟩ (B3 s root key height).2.1).2≠0 then((CU ⟨(B3 s root key height).1,root,height,count - 1⟩ (B3 s root key height).2.1).1,true,(CU ⟨(B3 s root key height).1,root,height,count - 1⟩ (B3 s root key height).2.1).2) else
    ((DZ (CU ⟨(B3 s root key height).1,root,height,count - 1⟩ (B3 s root key height).2.1).1).1,true,(DZ (CU ⟨(B3 s root key height).1,root,height,count - 1⟩ (B3 s root key height).2.1).1).2):=by
   unfold BX;rw[if_neg hh0]
  rw[hF];clear hF;obtain⟨x,rfl⟩:∃x,height=x+1:=⟨height - 1,by omega⟩
  (refine Ab Z<|Aa<|Ag<|Ad<|Ah Z (Al 0 Z Z)<|AF Z<|Ai Z<|Ah Z (Al 3 Z Z)<|AN Z Z<|Aa<|Ar Z (by omega)<|Ak<|Ag ?_);have hc1:=hcan.c hh0;have hnp:=hcan.np hh0;have hgr:=hcan.hh.resolve_right hh0;simp only at hc1 hnp hgr;clear hcan;refine Bw [_,_,_,_] L Z ?_;(refine Ah Z (Al 0 Z Z)<|Ah Z (Al 0 Z Z)<|AF Z<|Ai Z<|Ah Z (Al 3 Z Z)<|Ah Z (Al 0 Z Z)<|AF Z<|Ai Z<|Ah Z (Al 3 Z Z)<|Ah Z (Al 1 Z Z) ?_);have hins:=h1 x (r:=root) (h:=((x+1:Nat):Int)) (c:=count) (bt:=bt) (Tt:=Tt) (k:=root) (by omega) hp hk hr0 hr1 hnp;generalize B3 s root key (x+1)=U at hins hgr⊢;clear hnp;refine FQ (α:=Nat×TypeId) (β:=Option Addr×Nat×List Ac) [(0,pZ b2),(1,pZ b3),(2,pZ b7),(3,vZ 0)]
   (fun x=>[(4,.pointer (some ⟨x.1,0,none⟩))]) (fun x d L=>L=[bx x.1 x.2 [vZ 0,vZ 0,nV,vZ 0]])
   (fun y=>[(25,mdV U.2.1 y.1 y.2.1),(26,.bool U.2.2.1),(27,vZ U.2.2.2)]) (fun y d' M=>AJ d' (.slice y.1 U.2.1.key.length y.2.1) U.2.1.key∧MOk U.2.1∧PgT d' U.1 dv (pZ bp) y.2.2∧M=y.2.2) [] L Z
   (fun x d d' M hl h=>h) (fun y d d' M hl h=>⟨RSl.mono (R:=AH) AL h.1 hl,h.2.1,h.2.2.1.mono hl,h.2.2.2⟩) (fun x=>Z) (fun y=>Z) Z ⟨Z,Z,Z,Z,trivial⟩ ?_ ?_ ?_
  ·refine BP (fun b8 T8=>?_);(apply AZ);exact⟨_,Z,(b8,T8),⟨Z,trivial⟩,Z⟩
  ·refine Xc (B:=[_,_,_]) hins (Aei (l₁:=[_,_,_])) Z (fun v d4 L4 hl4 ⟨_,wa,wc,L5,e4,hk4,hm4,e5,hp5⟩=>⟨L5,by rw[e5];exact Aei (l₂:=[_,_,_]),?_⟩);subst e4;(refine AT Z<|Ao Z Z<|Ao Z Z<|Ao Z Z<|AZ ?_);exact⟨_,Z,(wa,wc,L5),⟨Z,Z,Z,trivial⟩,hk4,hm4,hp5,Z⟩
  rintro⟨b8,T8⟩ ⟨wa,wc,L5⟩ ρ2 d4 M1 M2 hl4 hM1 ⟨hk4,hm4,hp5,hM2⟩;subst hM1;subst hM2;simp only at hk4 hp5⊢;refine Br 0 Z Z Z Z (Aef _) Z ?_;clear hins;obtain⟨us,um,uw,ue⟩:=U;simp only at hk4 hm4 hp5 hgr⊢;(refine Ae Z<|Ab Z<|AZ<|Ag<|Ad<|Ab Z<|AO Z Z<|Ae Z ?_);by_cases hue:ue=0
  ·subst hue;cases uw with
   |true=>
    rw[if_neg (by simp)]
    (refine A3 Z (by omega)<|Af Z<|Ae Z<|Af Z<|Bn Z<|Au Z Z<|Aa<|AS Z<|Ak<|Ad ?_)
    refine A7 2 [.bool true] Z Z Z Z (Aef _) Z Z ?_
    (refine Aa<|Ad<|Ah Z (Al 0 Z Z)<|AF Z<|Ai Z<|Ah Z (Al 3 Z Z)<|CV Z Z (by omega) (by omega)<|AF Z<|Ai Z ?_)
    have hcc:(count:Int) - 1=((count - 1:Nat):Int):=by omega
    refine A7 3 [pZ bp,vZ root,vZ ((x+1:Nat):Int),vZ ((count:Int) - 1)] Z Z Z Z (Aea Z) Z Z ?_
    rw[hcc]
    (refine Aa<|Ag<|Ad<|Ah Z (Al 0 Z Z)<|Bf 4 Z Z Z ?_)
    refine Ds (A:=tbD bt Tt (pZ bp) ⟨us,root,x+1,count - 1⟩::M2) (B:=[_,_,_,_]) (h2 (t:=⟨us,root,x+1,count - 1⟩) (m:=um) hp5 hk4 hm4 (by show x+1≤1000000;omega))
     ((Afj (l₁:=[_,_,_])).trans (Aem _ (Aei (l₁:=[_,_,_,_])))) Z (fun v d6 L6 hl6 ⟨_,e6,L7,e7,hp7⟩=>?_)
    subst e6;subst e7
    have hg1:(CU ⟨us,root,x+1,count - 1⟩ um).1.height≤1000001:=by unfold CU;split<;>simp only<;>omega
    generalize CU ⟨us,root,x+1,count - 1⟩ um=Q at hgr hp7 hg1
    obtain⟨tq,eq⟩:=Q
    simp only at hgr hp7 hg1⊢
    refine⟨d6,[_,_,_,_]++tbD bt Tt (pZ bp) tq::L7,Vs.perm (Aei (l₂:=[_,_,_,_])),?_⟩
    (refine Ab Z<|Aa<|Ad<|Ab Z<|AO Z Z<|Aa ?_)
    by_cases hqe:eq=0
    ·rw[if_neg (fun q=>q hqe)]
     (refine Ar Z (by omega)<|Ak<|Ad<|Ah Z (Al 0 Z Z) ?_)
     refine AY [_,_,_,_] (h3 (t:=tq) hp7 (by omega) hg1) Z Z (fun v d8 L8 hl8 ⟨_,e8,L9,e9,hp9⟩=>?_)
     subst e8;subst e9
     (refine Ab Z<|Aa<|Ap ?_)
     exact A4 [vZ _] ⟨Aq Z,trivial⟩ (d':=d8) (L':=tbD bt Tt (pZ bp) (DZ tq).1::([bx b2 T2 [pZ bt],bx b3 T3 [.slice ka key.length kc],bx b7 T7 [.bool true]]++L9)) ((Vs.drop (L':=[bx b2 T2 [pZ bt],bx b3 T3 [.slice ka key.length kc],bx b7 T7 [.bool true]]++(tbD bt Tt (pZ bp) (DZ tq).1::L9)) (.cons_cons _ (.cons_cons _ (.cons_cons _ (.cons _ (Aeb _)))))).trans (Vs.perm Afj)) ⟨(hl4.trans hl6).trans hl8,Z,L9,Z,hp9⟩
    ·rw[if_pos hqe]
     (refine Aw Z (by omega)<|Ad<|Ab Z<|Ab Z<|Aa<|Ap ?_)
     exact A4 [vZ eq] ⟨Aq Z,trivial⟩ (d':=d6) (L':=tbD bt Tt (pZ bp) tq::([bx b2 T2 [pZ bt],bx b3 T3 [.slice ka key.length kc],bx b7 T7 [.bool true]]++L7)) ((Vs.drop (L':=[bx b2 T2 [pZ bt],bx b3 T3 [.slice ka key.length kc],bx b7 T7 [.bool true]]++(tbD bt Tt (pZ bp) tq::L7)) (.cons_cons _ (.cons_cons _ (.cons_cons _ (.cons _ (Aeb _)))))).trans (Vs.perm Afj)) ⟨hl4.trans hl6,Z,L7,Z,hp7⟩
   |false=>
    rw[if_pos (.inr Z)]
    (refine A3 Z (by omega)<|Af Z<|Ae Z<|Af Z<|Bn Z<|Au Z Z<|Aa<|Bc Z<|Ad<|Ab Z<|Ab Z<|Aa<|Ap ?_)
    exact A4 [vZ 0] ⟨Aq Z,trivial⟩ (d':=d4) (L':=tbD bt Tt (pZ bp) ⟨us,root,x+1,count⟩::([bx b2 T2 [pZ bt],bx b3 T3 [.slice ka key.length kc],bx b7 T7 [.bool false]]++M2)) ((Vs.drop (L':=[bx b2 T2 [pZ bt],bx b3 T3 [.slice ka key.length kc],bx b7 T7 [.bool false]]++(tbD bt Tt (pZ bp) ⟨us,root,x+1,count⟩::M2)) (.cons_cons _ (.cons_cons _ (.cons_cons _ (.cons_cons _ (.cons _ (Aeb _))))))).trans (Vs.perm Afj)) ⟨hl4,Z,M2,Z,hp5⟩
  ·rw[if_pos (.inl hue)];(refine A8 Z (by omega)<|An Z<|An Z<|Ay Z Z<|Aa<|Bc Z<|Ad<|Ab Z<|Ab Z<|Aa<|Ap ?_);exact A4 [vZ ue] ⟨Aq Z,trivial⟩ (d':=d4) (L':=tbD bt Tt (pZ bp) ⟨us,root,x+1,count⟩::([bx b2 T2 [pZ bt],bx b3 T3 [.slice ka key.length kc],bx b7 T7 [.bool false]]++M2)) ((Vs.drop (L':=[bx b2 T2 [pZ bt],bx b3 T3 [.slice ka key.length kc],bx b7 T7 [.bool false]]++(tbD bt Tt (pZ bp) ⟨us,root,x+1,count⟩::M2)) (.cons_cons _ (.cons_cons _ (.cons_cons _ (.cons_cons _ (.cons _ (Aeb _))))))).trans (Vs.perm Afj)) ⟨hl4,Z,M2,Z,hp5⟩
def Ei(t:TD)(key:List UInt8):TD×Bool×Int:=
 if BZ key≠0 then(t,false,BZ key) else(Cp t (BX t key).1 (BX t key).2.2,(BX t key).2.1 && decide ((BX t key).2.2=0),(BX t key).2.2)
def PO(P:Program)(f:FuncId):Prop:=∀{d}{t:TD}{dv pv kv L}{bt:Nat}{Tt key},PgT d t.s dv pv L→AJ d kv key→(BZ key=0→AaV t key)→
 AA P f [pZ bt,kv] d (tbD bt Tt pv t::L) (Ret fun v d' L'=>Le d d'∧v=.tuple #[.bool (Ei t key).2.1,vZ (Ei t key).2.2]∧∃L2,L'=tbD bt Tt pv (Ei t key).1::L2∧PgT d' (Ei t key).1.s dv pv L2)
def QC(a0 a1 a2:Nat):A0:=⟨24,[(.tmp 4),(.tmp 5)],(sR (o1 2 (.box 0)<|o1 3 (.box 1)<|o1 4 (.mv (.const (.bool false)))<|o1 5 (.mv z0) .done) (.seq (sR (ol 9 2<|ol 10 3<|oc 11 a0 [9,10]<|om 6 11 .done) (sR (om 12 6<|ob 13 .neq 12 z0 .done) (.cond 13 (sR (om 14 6<|o1 4 (.mv (.const (.bool false)))<|om 5 14 .done) .ret) .skip))) (sR (o1 7 (.alo (.bool false))<|o0 (.st 1 7 (.const (.bool false))) .done) (sR (ol 15 2<|o1 16 (.mkf (.func a1) [] [2,3,7])<|oc 17 a2 [15,16]<|om 8 17 .done) (sR (ol 18 7<|om 19 18<|gT 20 19 8<|oT 21 19 (.bin .eql 20 z0)<|gP 22 19 21<|om 23 8<|om 4 22<|om 5 23 .done) .ret)))))⟩
set_option maxRecDepth 4000 in
set_option maxHeartbeats 2000000 in
def WS{P f}(hd:dec P f=some (QC f1 f2 f3))(h1:Jh P f1)(h2:Nv P f2)(h3:HQ P f3):PO P f:=by
 intro d t dv pv kv L bt Tt key hp hk hf;obtain⟨bp,rfl⟩:=hp.ptr;obtain⟨ka,kc,rfl⟩:=hk.val;refine AG hd (Aea Z) ?_;show gwp P _ _ _ _ _;apply Ag;apply AE;refine Fb Z (fun b2 T2=>?_);refine Fb Z (fun b3 T3=>?_);refine Ae Z<|Ab Z<|Aa<|Ag<|Ad<|Ah Z (Al 1 Z Z)<|Ah Z (Al 0 Z Z)<|AY [_,_] (h1 (L:=L) hk) Z Z (fun v d2 L2 _ ⟨e1,e2,e3⟩=>?_);subst e1;subst e2;subst e3;by_cases hw:BZ key=0
 ·have hF:Ei t key=(Cp t (BX t key).1 (BX t key).2.2,(BX t key).2.1 && decide ((BX t key).2.2=0),(BX t key).2.2):=by unfold Ei;rw[if_neg (fun q=>q hw)]
  have hcan:=hf hw;rw[hF,hw];(refine Ab Z<|Aa<|Ad<|Ab Z<|AO Z Z<|Aa<|Ar Z (by omega)<|Ak<|Ad<|Dg (fun _ _=>?_));rename_i b7 T7;refine A7 0 [.bool false] Z Z Z Z (Aef _) Z Z ?_;refine Aa<|Ad<|Ah Z (Al 2 Z Z)<|Nk<|Ds (A:=tbD bt Tt (pZ bp) t::([bx b2 T2 [pZ bt],bx b3 T3 [.slice ka key.length kc],bx b7 T7 [.bool false]]++L)) (B:=[])
   (h3 (t':=(BX t key).1) (e:=(BX t key).2.2) (X':=[bx b2 T2 [pZ bt],bx b3 T3 [.slice ka key.length kc],bx b7 T7 [.bool (BX t key).2.1]]) hp (YQ t key) (fun d1 hl1=>h2 (hp.mono hl1) (RSl.mono (R:=AH) AL hk hl1) hcan)) ?_ Z (fun v d4 L4 hl4 ⟨_,e4,L5,e5,hp5⟩=>?_)
  ·rw[Afh];refine(Afj (l₁:=[_,_,_])).trans (Aem _ (List.Perm.append_right L ?_));exact(Aei (l₁:=[_,_]) (l₂:=[_])).trans (Aem _ (Afa _ _ _))
  ·subst e4;subst e5;refine⟨d4,_,Vs.refl _ _,?_⟩
   rw[Afh];generalize (BX t key).2.1=b;cases b with
   |true=>
    (refine Ab Z<|Aa<|Ad<|Ah Z (Al 3 Z Z)<|Ae Z<|Af Z<|Ab Z<|Af Z<|AN Z Z<|Ay Z Z<|Ab Z<|Ae Z<|Ab Z<|Aa<|Ap ?_)
    exact A4 [.bool (decide ((BX t key).2.2=0)),vZ (BX t key).2.2] ⟨Aq Z,Aq Z,trivial⟩ (d':=d4) (L':=tbD bt Tt (pZ bp) (Cp t (BX t key).1 (BX t key).2.2)::L5) (Vs.drop (.cons_cons _ (.cons _ (.cons _ (.cons _ (Aeb _)))))) ⟨hl4,by rw[Ahr];rfl,L5,Z,hp5⟩
   |false=>
    (refine Ab Z<|Aa<|Ad<|Ah Z (Al 3 Z Z)<|Ae Z<|An Z<|An Z<|Au Z Z<|Ab Z<|Ae Z<|Ab Z<|Aa<|Ap ?_)
    exact A4 [.bool false,vZ (BX t key).2.2] ⟨Aq Z,Aq Z,trivial⟩ (d':=d4) (L':=tbD bt Tt (pZ bp) (Cp t (BX t key).1 (BX t key).2.2)::L5) (Vs.drop (.cons_cons _ (.cons _ (.cons _ (.cons _ (Aeb _)))))) ⟨hl4,Z,L5,Z,hp5⟩
 ·have hF:Ei t key=(t,false,BZ key):=by unfold Ei;rw[if_pos hw]
  rw[hF];(refine Ab Z<|Aa<|Ad<|Ab Z<|AO Z Z<|Aa<|Aw Z (by omega)<|Ad<|Ab Z<|Ae Z<|Ab Z<|Aa<|Ap ?_);exact Cw (L':=tbD bt Tt (pZ bp) t::L) Z Z (.cons _ (.cons _ (Aeb _))) ⟨Le.refl _,Z,L,Z,hp⟩
end Go.Gk.Tre
end
section
namespace Go.Gk.Tre
open Go Go.Gk Go.Gk.Dev Go.Gk.Cch Go.Gk.Pgr Go.Gk.Chn Go.Gk.Node
variable{s:PD}{t:TD}{N i:Nat}{l:List KV}{P:List Int}{key:List UInt8}
def YA(s:PD)(P:List Int):Prop:=∀k,Bs s k↔k∈P
def YA.mv{t}{A B:List Int}{c:Nat}(h:YA s A)(k:Mv s t A B c):YA t B:=fun p=>by
 rw[k.lv,h p];exact⟨fun q=>q.elim (fun q=>absurd q.1 q.2) id,.inr⟩
structure Gr (N i:Nat) (t:TD) (l:List KV) (P:List Int):Prop where
 ok:Tok t l P
 on:YA t.s P
 ln:l.length≤i
 kv:∀x∈l,x.1.length≤64∧x.2.length≤700
 kn:t.s.kinds.length=N
def Gr.more{j:Nat}(h:Gr N i t l P)(hj:i≤j):Gr N j t l P:=⟨h.ok,h.on,by have:=h.ln;omega,h.kv,h.kn⟩
def Tok.far(h:Tok t l P)(hl:l.length≤1000):QS t∧t.height≤2000:=by
 have hc:=h.ct;have hh:t.height≤2000:=by
  rcases h.high with ⟨_,e,_⟩|⟨_,_,e⟩
  ·omega
  ·have:t.height<2 ^ t.height:=Nat.lt_two_pow_self;omega
 refine⟨⟨?_,?_,by omega,by omega⟩,hh⟩
 ·rcases h.tr with ⟨_,e,_⟩|⟨x,_,⟨n,Q,hat,_⟩⟩
  ·omega
  ·have:=D9 h.gd hat.liv;omega
 ·rcases h.tr with ⟨_,e,_⟩|⟨x,_,⟨n,Q,hat,_⟩⟩
  ·omega
  ·have:=D9 h.gd hat.liv;omega
def VY(t:TD)(m:MdD):t.height≤(CU t m).1.height:=by
 unfold CU;split
 ·exact Aef _
 ·exact Nat.le_succ _
def Tok.can(h:Tok t l P)(hl:l.length≤1000)(key:List UInt8):AaV t key:=by
 refine⟨(h.far hl).1,fun hh=>?_,fun hh=>?_,?_⟩
 ·rcases h.tr with ⟨e,_⟩|⟨x,e,ht⟩
  ·exact absurd e hh
  ·rw[e];rcases UK (key:=key) x h.gd ht h.nd with ⟨q,_⟩|⟨q,_⟩
   ·rw[q];decide
   ·rw[q];decide
 ·rcases h.tr with ⟨e,_⟩|⟨x,e,ht⟩
  ·exact absurd e hh
  ·rw[h.ct];exact F0.1 ht.ne
 ·by_cases hh:t.height=0
  ·exact .inr hh
  ·refine .inl (fun q=>?_);have:=VY {t with s:=(B3 t.s t.root key t.height).1,count:=t.count - 1} (B3 t.s t.root key t.height).2.1;rw[q] at this;exact hh (Nat.le_zero.1 this)
def Aac{t}(h:Pgr.AQ s t)(hG:Pgr.Good s):Pgr.Good (t.back s.mark):=
 ⟨hG.one,hG.len,by show t.frm+s.kinds.length≤t.syn.length;rw[h.frm,h.syn];exact hG.inn,by show t.syn.length≤8192;rw[h.syn];exact hG.syn,hG.kd⟩
def Zk{t}(h:Pgr.AQ s t)(P:List Int):FN s (t.back s.mark) P:=fun p _=>⟨MR h p,XQ h p⟩
def Tok.same(h:Tok t l P)(hG:Pgr.Good s)(hs:FN t.s s P):Tok {t with s:=s} l P:=
 ⟨hG,h.nd,h.ct,by
  rcases h.tr with e|⟨x,e,ht⟩
  ·exact .inl e
  ·exact .inr ⟨x,e,ht.stay hs⟩⟩
def Gr.back(h:Gr N i t l P){r}(hk:Pgr.AQ t.s r):Gr N i {t with s:=r.back t.s.mark} l P∧(r.back t.s.mark).free=t.s.free:=
 ⟨⟨h.ok.same (Aac hk h.ok.gd) (Zk hk P),fun k=>by
  have:=h.on k;unfold Bs at this⊢;show(r.back t.s.mark).kind k=1∨(r.back t.s.mark).kind k=2↔_;rw[MR hk];exact this,h.ln,h.kv,h.kn⟩,Z⟩
def We(h:BZ key=0):1≤key.length∧key.length≤64:=by unfold BZ at h;split at h<;>omega
def Gr.put(h:Gr N i t l P){v}(hw:BZ key=0)(hv:v.length≤700):
  ((Df t key v).2=0∧∃P',Gr N (i+1) (Df t key v).1 (Em l key v) P')∨
  ((Df t key v).2=190∧t.s.free<4*t.height+3+AP v.length∧(Df t key v).1.s.free=t.s.free∧Gr N (i+1) (Df t key v).1 l P):=by
 have hk:=We hw
 have e:Df t key v=(Cp t (CT t key v).1 (CT t key v).2,(CT t key v).2):=by unfold Df;rw[if_neg (fun q=>q hw),if_neg (by omega)]
 have hkp:=Y8 t key v
 rw[e]
 rcases Aaf h.ok hk (v:=v) (by omega) with ⟨h1,P',h2,h3⟩|⟨h1,h2⟩
 ·refine .inl ⟨h1,P',?_⟩
  show Gr N (i+1) (Cp t (CT t key v).1 (CT t key v).2) _ _
  unfold Cp
  rw[if_pos h1]
  refine⟨h2,h.on.mv h3,?_,fun x hx=>?_,by rw[hkp.len];exact h.kn⟩
  ·have:=VF (l:=l) (key:=key) (v:=v)
   have:=h.ln
   split at* <;>omega
  ·rcases OY hx with rfl|hx
   ·exact⟨hk.2,hv⟩
   ·exact h.kv x hx
 ·obtain⟨g1,g2⟩:=h.back hkp
  refine .inr ⟨h1,by omega,?_,?_⟩
  ·show(Cp t (CT t key v).1 (CT t key v).2).s.free=_
   unfold Cp
   rw[if_neg (by rw[h1];decide)]
   exact g2
  ·show Gr N (i+1) (Cp t (CT t key v).1 (CT t key v).2) _ _
   unfold Cp
   rw[if_neg (by rw[h1];decide)]
   exact g1.more (Nat.le_succ _)
def Gr.del(h:Gr N i t l P)(hw:BZ key=0):
  ((Ei t key).2.2=0∧(Ei t key).2.1=isK l key∧∃P',Gr N i (Ei t key).1 (Cn l key).1 P')∨
  ((Ei t key).2.2=190∧(Ei t key).2.1=false∧t.s.free<4*t.height+1∧(Ei t key).1.s.free=t.s.free∧Gr N i (Ei t key).1 l P):=by
 have e:Ei t key=(Cp t (BX t key).1 (BX t key).2.2,(BX t key).2.1 && decide ((BX t key).2.2=0),(BX t key).2.2):=by unfold Ei;rw[if_neg (fun q=>q hw)]
 have hkp:=YQ t key
 rw[e]
 rcases Aak h.ok key with ⟨h1,h1',P',h2,h3⟩|⟨h1,h2⟩
 ·refine .inl ⟨h1,by simp[h1,h1'],P',?_⟩
  show Gr N i (Cp t (BX t key).1 (BX t key).2.2) _ _
  unfold Cp
  rw[if_pos h1]
  refine⟨h2,h.on.mv h3,?_,fun x hx=>h.kv x (Jd hx),by rw[hkp.len];exact h.kn⟩
  have:=Xe l key
  have:=h.ln
  omega
 ·obtain⟨g1,g2⟩:=h.back hkp
  refine .inr ⟨h1,by simp[h1],h2,?_,?_⟩
  ·show(Cp t (BX t key).1 (BX t key).2.2).s.free=_
   unfold Cp
   rw[if_neg (by rw[h1];decide)]
   exact g2
  ·show Gr N i (Cp t (BX t key).1 (BX t key).2.2) _ _
   unfold Cp
   rw[if_neg (by rw[h1];decide)]
   exact g1
def Aan(h:Pgr.Good s):Pgr.Good s.fin:=by
 have hl:s.fin.kinds.length=s.kinds.length:=by simp[PD.fin,PD.done,PD.flush]
 have hs:s.fin.syn.length=s.syn.length:=EX _ _;refine⟨by rw[hl];exact h.one,by rw[hl];exact h.len,by rw[hl,hs];exact h.inn,by rw[hs];exact h.syn,fun i=>?_⟩
 rcases AcK h (i:=i) with q|q<;>rw[q]<;>decide
def Ph{k:Int}:Bs s.fin k↔Bs s k:=by
 unfold Bs;rw[Vi];unfold Dp;constructor
 ·intro q;by_cases h3:s.kind k=3
  ·rw[if_pos h3] at q;omega
  ·rw[if_neg h3] at q;by_cases h1:s.kind k=1
   ·exact .inl h1
   ·rw[if_neg h1] at q;exact q
 ·rintro(q|q)<;>rw[q]<;>decide
def At.fin(hG:Pgr.Good s){k:Int}{n:AK}(h:At s k n):At s.fin k n:=⟨Ph.2 h.liv,by rw[Rr hG];exact h.byt,h.rgt⟩
def Gu.fin(hG:Pgr.Good s){b}{l:List Int}(h:Gu s b l):Gu s.fin b l:=
 ⟨h.len,h.rng,fun j hj=>Ph.2 (h.live j hj),fun j hj=>by rw[Rr hG];exact h.pg j hj⟩
def Lf.fin(hG:Pgr.Good s):∀{ks vs l}{P:List Int},Lf s ks vs l P→Lf s.fin ks vs l P
 |[],[],l,P,h=>by rw[Lf] at h⊢;exact h
 |[],_::_,l,P,h=>by rw[Lf] at h<;>simp_all
 |_::_,[],l,P,h=>by rw[Lf] at h<;>simp_all
 |k::ks,c::cs,l,P,h=>by
  rw[Lf] at h⊢;obtain⟨v,l',P1,P2,rfl,rfl,h1,h2⟩:=h;refine⟨v,l',P1,P2,Z,Z,?_,h2.fin hG⟩
  rcases h1 with h1|⟨q1,q2,q3,q4⟩
  ·exact .inl h1
  ·exact .inr ⟨q1,q2,Gu.fin hG q3,q4⟩
def Tr.fin(hG:Pgr.Good s):∀{h:Nat}{k:Int}{l}{P:List Int},Tr s h k l P→Tr s.fin h k l P
 |0,k,l,P,h=>h.elim
 |h+1,k,l,P,⟨n,Q,h1,h2,e,h3⟩=>by
  refine⟨n,Q,At.fin hG h1,h2,e,?_⟩
  by_cases e:h=0
  ·rw[decide_eq_true e] at h3⊢;exact .mkl h3.leaf.1 (h3.leaf.2.fin hG)
  ·rw[decide_eq_false e] at h3⊢;exact .mki h3.inner.1 (h3.inner.2.mono (fun c l P _ q=>Tr.fin hG q))
def Gr.fin(h:Gr N i t l P):Gr N i {t with s:=t.s.fin} l P:=
 ⟨⟨Aan h.ok.gd,h.ok.nd,h.ok.ct,by
  rcases h.ok.tr with e|⟨x,e,ht⟩
  ·exact .inl e
  ·exact .inr ⟨x,e,ht.fin h.ok.gd⟩⟩,fun k=>Ph.trans (h.on k),h.ln,h.kv,by show t.s.fin.kinds.length=N;rw[←h.kn];simp[PD.fin,PD.done,PD.flush]⟩
def Tok.E7(h:Tok t l P)(hw:BZ key=0):Ex t key=((En l key).1,(En l key).2,0):=by
 unfold Ex;rw[if_neg (fun q=>q hw)];exact h.get key
def Zb{R:RT}(hR:∀c l P,R c l P→KO (l.map Prod.fst)):∀{ks}{cs:List Int}{l}{P:List Int},Kd R ks cs l P→KO (l.map Prod.fst)
 |[],[c],l,P,h=>hR c l P h
 |[],[],l,P,h=>h.elim
 |[],_::_::_,l,P,h=>h.elim
 |_::_,[],l,P,h=>h.elim
 |k::ks,c::cs,l,P,h=>by
  obtain⟨l1,l2,P1,P2,rfl,rfl,h1,h2,h3,h4⟩:=Kd.cons.1 h;rw[Agj];refine KO.app.2 ⟨hR _ _ _ h1,Zb hR h4,fun x hx y hy=>?_⟩;obtain⟨x',hx',rfl⟩:=Aid.1 hx;obtain⟨y',hy',rfl⟩:=Aid.1 hy;exact HG (h2 x' hx') (h3 y' hy')
def Zz:∀{h:Nat}{s}{k:Int}{l}{P:List Int},Tr s h k l P→KO (l.map Prod.fst)
 |0,s,k,l,P,h=>h.elim
 |h+1,s,k,l,P,⟨n,Q,hat,hne,eP,hn⟩=>by
  by_cases e:h=0
  ·rw[decide_eq_true e] at hn;obtain⟨n1,n2⟩:=hn.leaf;have hs:=hat.sound;rw[Eo hs n1] at hs;rw[←n2.keys];exact(CC.1 hs).1
  ·rw[decide_eq_false e] at hn;exact Zb (fun c l P q=>Zz q) hn.inner.2
section
structure WR where
 out:List KV
 tc:Nat
 on:Bool
 e:Int
def FA(s:PD)(most:Int)(key c:List UInt8)(out:List KV)(tc:Nat):WR:=
 let v:=Cu s c
 let o:=if v.2=0 then out++[(key,v.1)] else out
 ⟨o,tc+D3 c,decide ((o.length:Int)<most),v.2⟩
def H8(p:Option (List UInt8))(to:List UInt8):Bool:=match p with|none=>false|some k=> !to.isEmpty && !Op.bytesLess k to
def Ek(s:PD)(most:Int)(to:List UInt8):List (List UInt8)→List (List UInt8)→List KV→Nat→WR
 |k::ks,c::cs,out,tc=>if H8 (some k) to=true then⟨out,tc,false,0⟩ else
  let r:=FA s most k c out tc
  if r.e≠0∨r.on=false then⟨r.out,r.tc,false,r.e⟩ else Ek s most to ks cs r.out r.tc
 |_,_,out,tc=>⟨out,tc,true,0⟩
def EI(rec:Int→List KV→Nat→WR)(to:List UInt8):Option (List UInt8)→List (List UInt8)→List Int→List KV→Nat→WR
 |_,_,[],out,tc=>⟨out,tc,true,0⟩
 |p,ks,c::cs,out,tc=>if H8 p to=true then⟨out,tc,false,0⟩ else
  let r:=rec c out tc
  if r.e≠0∨r.on=false then⟨r.out,r.tc,false,r.e⟩ else EI rec to ks.head? ks.tail cs r.out r.tc
def DN(n:AK)(fr:List UInt8):Nat:=if fr=[] then 0 else(findD n fr).1
def CF(s:PD)(most:Int)(fr to:List UInt8):Nat→Int→List KV→Nat→WR
 |0,_,out,tc=>⟨out,tc,false,200⟩
 |h+1,page,out,tc=>
  let r:=AX s page (h+1:Nat)
  if r.2≠0 then⟨out,tc,false,r.2⟩ else
  let i:=DN r.1 fr
  if h=0 then Ek s most to (r.1.keys.drop i) (r.1.vals.drop i) out (tc+1)
  else EI (CF s most fr to h) to (if i=0 then none else r.1.keys[i - 1]?) (r.1.keys.drop i) (r.1.kids.drop i) out (tc+1)
def inR(fr to:List UInt8)(x:KV):Bool:= !Op.bytesLess x.1 fr &&(to.isEmpty||Op.bytesLess x.1 to)
def BA(fr to:List UInt8)(m:Nat)(l:List KV):List KV:=(l.filter (inR fr to)).take m
def cpL(l:List KV):Nat:=(l.map fun x=>if 15<x.2.length then AP x.2.length else 0).sum
def Wq(a b:List KV):cpL (a++b)=cpL a+cpL b:=by simp[cpL]
section
variable {fr to:List UInt8}
def QO{m:Nat}:BA fr to m []=[]:=by simp[BA]
def Acj{m:Nat}{l}:(BA fr to m l).length≤m:=by unfold BA;rw[Aer];exact Nat.min_le_left ..
def U4{m:Nat}{l}(h:∀x∈l,inR fr to x=false):BA fr to m l=[]:=by
 unfold BA;rw[Aiu.2 (fun x hx=>by rw[h x hx];decide)];simp
def Vp{m:Nat}{a b}(h:(BA fr to m a).length=m):BA fr to m (a++b)=BA fr to m a:=by
 unfold BA at h⊢;rw[Aiw];rw[Aer] at h;rw[List.take_append_of_le_length (by omega)]
def Tb{m:Nat}{a b}(h:∀x∈b,inR fr to x=false):BA fr to m (a++b)=BA fr to m a:=by
 unfold BA;have e:b.filter (inR fr to)=[]:=Aiu.2 (fun x hx=>by rw[h x hx];decide);rw[Aiw,e,Afh]
def UD{m:Nat}{a b}(h:(BA fr to m a).length<m):BA fr to m (a++b)=BA fr to m a++BA fr to (m - (BA fr to m a).length) b:=by
 unfold BA at h⊢;rw[Aer] at h⊢;have hl:(a.filter (inR fr to)).length<m:=by omega
 rw[Aiw,List.take_append,List.take_of_length_le (by omega)];congr 2;omega
def Of{m:Nat}{x:KV}{l}(h:inR fr to x=true):BA fr to (m+1) (x::l)=x::BA fr to m l:=by
 unfold BA;rw[List.filter_cons_of_pos h,List.take_succ_cons]
def Rest(fr to:List UInt8)(m:Nat)(l:List KV)(n:Nat):Prop:=n=m∨(to≠[]∧∃x∈l,¬Lt x.1 to)
def PM{x:KV}(h0:to≠[])(h:¬Lt x.1 to):inR fr to x=false:=by
 unfold inR;have h1:Op.bytesLess x.1 to=false:=by simpa [Lt] using h
 cases to with
 |nil=>exact absurd Z h0
 |cons a t=>rw[h1];simp
def Aax{m:Nat}{a b}(hk:KO ((a++b).map Prod.fst))(h:Rest fr to m a (BA fr to m a).length):BA fr to m (a++b)=BA fr to m a:=by
 rcases h with h|⟨h0,x,hx,hn⟩
 ·exact Vp h
 ·refine Tb fun y hy=>PM h0 fun q=>hn ?_;rw[Agj] at hk;exact FP ((KO.app.1 hk).2.2 x.1 (Agl hx) y.1 (Agl hy)) q
end
structure WOk (fr to:List UInt8) (M:Nat) (f:Bool) (h:Nat) (l:List KV) (out:List KV) (tc:Nat) (r:WR):Prop where
 e0:r.e=0
 ou:r.out=out++BA fr to (M - out.length) l
 yes:r.on=true→r.out.length<M∧(f=true→1≤(BA fr to (M - out.length) l).length)
 no:r.on=false→Rest fr to (M - out.length) l (BA fr to (M - out.length) l).length
 tc:∃n,r.tc=tc+n+cpL (BA fr to (M - out.length) l)∧n≤h*((BA fr to (M - out.length) l).length+(if f=true then 0 else 1)+(if r.on=true then 0 else 1))
section
variable {s:PD}{fr to:List UInt8}{M:Nat}
def GD{k}:H8 (some k) to=true↔to≠[]∧¬Lt k to:=by
 unfold H8 Lt;cases to<;>simp
def RO:∀{ks vs l}{P:List Int}{out}{tc:Nat},Lf s ks vs l P→(∀x∈l,¬Lt x.1 fr)→KO (l.map Prod.fst)→out.length<M→
  (Ek s M to ks vs out tc).e=0∧(Ek s M to ks vs out tc).out=out++BA fr to (M - out.length) l∧
  ((Ek s M to ks vs out tc).on=true→(Ek s M to ks vs out tc).out.length<M∧(BA fr to (M - out.length) l).length=l.length)∧
  ((Ek s M to ks vs out tc).on=false→Rest fr to (M - out.length) l (BA fr to (M - out.length) l).length)∧
  (Ek s M to ks vs out tc).tc=tc+cpL (BA fr to (M - out.length) l)
 |[],[],l,P,out,tc,h,_,_,ho=>by
  rw[Lf] at h;obtain⟨rfl,rfl⟩:=h;rw[Ek,QO,Afh]
  ·exact⟨Z,Z,fun _=>⟨ho,Z⟩,(by simp),by simp[cpL]⟩
  ·simp
 |[],_::_,l,P,out,tc,h,_,_,_=>by rw[Lf] at h<;>simp_all
 |_::_,[],l,P,out,tc,h,_,_,_=>by rw[Lf] at h<;>simp_all
 |k::ks,c::cs,l,P,out,tc,h,hf,hk,ho=>by
  rw[Lf] at h;obtain⟨v,l',P1,P2,rfl,rfl,hc,h2⟩:=h;rw[List.map_cons,KO.cons] at hk;obtain⟨m,hm⟩:∃m,M - out.length=m+1:=⟨M - out.length - 1,by omega⟩
  rw[Ek];by_cases hs:H8 (some k) to=true
  ·rw[if_pos hs];obtain⟨q1,q2⟩:=GD.1 hs;have hn:BA fr to (M - out.length) ((k,v)::l')=[]:=U4 fun x hx=>by
    rcases Aex.1 hx with rfl|hx
    ·exact PM q1 q2
    ·exact PM q1 fun q=>q2 (FP (hk.2.2 x.1 (Agl hx)) q)
   rw[hn,Afh];exact⟨Z,Z,(by simp),fun _=>.inr ⟨q1,(k,v),Aeo ..,q2⟩,by simp[cpL]⟩
  ·rw[if_neg hs];have hin:inR fr to (k,v)=true:=by
    have h1:Op.bytesLess k fr=false:=by simpa [Lt] using hf (k,v) (Aeo ..)
    have h2:¬(to≠[]∧¬Lt k to):=fun q=>hs (GD.2 q);unfold inR;rw[h1];cases to with
    |nil=>rfl
    |cons a t=>
     have:Op.bytesLess k (a::t)=true:=Decidable.byContradiction fun q=>h2 ⟨by simp,q⟩
     simp[this]
   have ht:FA s M k c out tc=⟨out++[(k,v)],tc+D3 c,decide (((out++[(k,v)]).length:Int)<M),0⟩:=by
    unfold FA;rw[hc.val];rfl
   have hsel:BA fr to (M - out.length) ((k,v)::l')=(k,v)::BA fr to m l':=by rw[hm];exact Of hin
   have hcp:cpL ((k,v)::BA fr to m l')=D3 c+cpL (BA fr to m l'):=by
    rw[hc.D3];simp[cpL]
   rw[ht];simp only;by_cases hon:(((out++[(k,v)]).length:Nat):Int)<M
   ·rw[decide_eq_true hon,if_neg (by simp)];have hl1:(out++[(k,v)]).length<M:=by omega
    have e:M - (out++[(k,v)]).length=m:=by rw[Aek,Ahe];omega
    obtain⟨i1,i2,i3,i4,i5⟩:=RO (tc:=tc+D3 c) h2 (fun x hx=>hf x (Aev _ hx)) hk.2.1 hl1;rw[e] at i2 i3 i4 i5;rw[hsel,hcp];refine⟨i1,by rw[i2];simp,fun q=>⟨(i3 q).1,by rw[Aep,Aep,(i3 q).2]⟩,fun q=>?_,by rw[i5];omega⟩
    rcases i4 q with r|⟨r,x,hx,hy⟩
    ·exact .inl (by rw[Aep,r,hm])
    ·exact .inr ⟨r,x,Aev _ hx,hy⟩
   ·rw[decide_eq_false hon,if_pos (by simp)];have e:m=0:=by rw[Aek,Ahe] at hon;omega
    subst e;have e2:BA fr to 0 l'=[]:=by simp[BA]
    rw[hsel,hcp,e2];exact⟨Z,Z,(by simp),fun _=>.inl (by rw[hm];rfl),by simp[cpL]⟩
def RQ{h:Nat}(ih:∀{k:Int}{l}{P:List Int}{out}{tc:Nat}{f:Bool},Tr s h k l P→(f=true→∀x∈l,¬Lt x.1 fr)→out.length<M→WOk fr to M f h l out tc (CF s M fr to h k out tc)):
  ∀{ks}{cs:List Int}{l}{P:List Int}{p:Option (List UInt8)}{f:Bool}{out}{tc:Nat},Kd (Tr s h) ks cs l P→(∀k,p=some k→∀x∈l,¬Lt x.1 k)→(f=true→∀x∈l,¬Lt x.1 fr)→(∀k∈ks,¬Lt k fr)→KO (l.map Prod.fst)→out.length<M→
   WOk fr to M f h l out tc (EI (CF s M fr to h) to p ks cs out tc)
 |_,[],l,P,p,f,out,tc,hkd,_,_,_,_,_=>by
  have:=hkd.len;cases this
 |ks,c::cs,l,P,p,f,out,tc,hkd,hp,hf,hks,hko,ho=>by
  rw[EI];have hne:l≠[]:=(Kd.btw (fun c l P q=>Tr.ne q) hkd).1;by_cases hs:H8 p to=true
  ·rw[if_pos hs];obtain⟨k,rfl⟩:∃k,p=some k:=by
    cases p with
    |none=>cases hs
    |some k=>exact⟨k,Z⟩
   obtain⟨q1,q2⟩:=GD.1 hs;have hout:∀x∈l,¬Lt x.1 to:=fun x hx=>Abh q2 (hp k Z x hx);have hn:BA fr to (M - out.length) l=[]:=U4 fun x hx=>PM q1 (hout x hx);obtain⟨x,hx⟩:=List.exists_mem_of_ne_nil l hne;refine⟨Z,by rw[hn,Afh],(by simp),fun _=>.inr ⟨q1,x,hx,hout x hx⟩,0,by rw[hn];simp[cpL],Aez _⟩
  rw[if_neg hs];obtain⟨l1,l2,P1,hl,h1,hrest⟩:∃l1 l2 P1,l=l1++l2∧Tr s h c l1 P1∧((cs=[]∧l2=[])∨∃k ks' P2,ks=k::ks'∧(∀x∈l2,¬Lt x.1 k)∧Kd (Tr s h) ks' cs l2 P2):=by
   cases ks with
   |nil=>
    cases cs with
    |nil=>exact⟨l,[],P,by simp,hkd,.inl ⟨Z,Z⟩⟩
    |cons c2 cs=>exact hkd.elim
   |cons k ks=>
    obtain⟨l1,l2,P1,P2,e1,_,g1,g2,g3,g4⟩:=Kd.cons.1 hkd
    exact⟨l1,l2,P1,e1,g1,.inr ⟨k,ks,P2,Z,g3,g4⟩⟩
  subst hl;have hko1:KO (l1.map Prod.fst):=by rw[Agj] at hko;exact(KO.app.1 hko).1
  have hko2:KO (l2.map Prod.fst):=by rw[Agj] at hko;exact(KO.app.1 hko).2.1
  have w:=ih (tc:=tc) (f:=f) h1 (fun q x hx=>hf q x (Afc _ hx)) ho;generalize CF s M fr to h c out tc=r at w⊢;obtain⟨w1,w2,w3,w4,n,w5,w6⟩:=w;simp only;by_cases hon:r.on=true
  ·rw[if_neg (by rw[w1,hon];simp)];obtain⟨y1,y2⟩:=w3 hon;have hlen:r.out.length=out.length+(BA fr to (M - out.length) l1).length:=by rw[w2,Aek]
   have hlt:(BA fr to (M - out.length) l1).length<M - out.length:=by omega
   have hsel:=UD (b:=l2) hlt;have em:M - out.length - (BA fr to (M - out.length) l1).length=M - r.out.length:=by omega
   rw[em] at hsel;rw[if_pos hon] at w6;rcases hrest with ⟨rfl,rfl⟩|⟨k,ks',P2,rfl,g1,g2⟩
   ·rw[EI];rw[Afh];refine⟨Z,w2,fun _=>⟨y1,y2⟩,(by simp),n,w5,?_⟩
    rw[if_pos Z];exact w6
   ·have hk0:=hks k (Aeo ..);have x:=RQ ih (p:=some k) (f:=true) (tc:=r.tc) g2 (fun k' e x hx=>by cases e;exact g1 x hx) (fun _ x hx=>Abh hk0 (g1 x hx)) (fun k' hk'=>hks k' (Aev _ hk')) hko2 y1;rw[List.head?_cons,List.tail_cons];generalize EI (CF s M fr to h) to (some k) ks' cs r.out r.tc=u at x⊢;obtain⟨x1,x2,x3,x4,n2,x5,x6⟩:=x;have hl3:(BA fr to (M - out.length) (l1++l2)).length=(BA fr to (M - out.length) l1).length+(BA fr to (M - r.out.length) l2).length:=by rw[hsel,Aek]
    refine⟨x1,by rw[x2,hsel,←Aeg,←w2],fun q=>⟨(x3 q).1,fun hq=>by rw[hl3];have:=y2 hq;omega⟩,fun q=>?_,n+n2,?_,?_⟩
    ·rcases x4 q with z|⟨z,a,ha,hb⟩
     ·exact .inl (by rw[hl3,z];omega)
     ·exact .inr ⟨z,a,Afe _ ha,hb⟩
    ·rw[x5,w5,hsel,Wq];omega
    ·rw[if_pos Z] at x6;rw[hl3];have:n+n2≤h*((BA fr to (M - out.length) l1).length+(if f=true then 0 else 1)+0)+h*((BA fr to (M - r.out.length) l2).length+0+(if u.on=true then 0 else 1)):=Nat.add_le_add w6 x6;rw[←Nat.mul_add] at this;refine Nat.le_trans this (Ajl _ ?_);omega
  ·have hof:r.on=false:=by simpa using hon
   rw[if_pos (.inr hof)];have hr:=w4 hof;have hsel:BA fr to (M - out.length) (l1++l2)=BA fr to (M - out.length) l1:=Aax hko hr;rw[if_neg hon] at w6;refine⟨w1,by rw[hsel];exact w2,(by simp),fun _=>?_,n,by rw[hsel];exact w5,?_⟩
   ·rw[hsel];rcases hr with z|⟨z,a,ha,hb⟩
    ·exact .inl z
    ·exact .inr ⟨z,a,Afc _ ha,hb⟩
   ·rw[hsel];exact w6
end
def drop_left{α}(a b:List α):(a++b).drop a.length=b:=by rw[List.drop_append_of_le_length (Aef _),List.drop_length,Afi]
def W3{s fr to}{M:Nat}:∀(h:Nat) {k:Int}{l}{P:List Int}{out}{tc:Nat}{f:Bool},Tr s h k l P→(f=true→∀x∈l,¬Lt x.1 fr)→out.length<M→WOk fr to M f h l out tc (CF s M fr to h k out tc)
 |0,k,l,P,out,tc,f,ht,_,_=>ht.elim
 |h+1,k,l,P,out,tc,f,ht,hf,ho=>by
  have hasc:=Zz ht;have hlne:=ht.ne;obtain⟨n,Q,hat,hne,eP,hn⟩:=ht;subst eP;have hsf:∀x:List UInt8,¬Lt x []:=fun x q=>by cases x<;>simp[Lt,Op.bytesLess] at q
  cases h with
  |zero=>
   rw[decide_eq_true Z] at hn
   obtain⟨n1,n2⟩:=hn.leaf
   have ef:=Eo hat.sound n1
   obtain⟨ks,vs,rfl⟩:∃ks vs,n=⟨true,ks,vs,[]⟩:=⟨_,_,ef⟩
   simp only at n2 hne
   obtain⟨hko,hvl,hv16⟩:=CC.1 hat.sound
   have hlv:=hat.level (x:=((0+1:Nat):Int)) Z
   rw[CF,hlv]
   dsimp only
   rw[if_neg (by simp),if_pos Z]
   obtain⟨a,b,rfl,hi,ha,hb⟩:∃a b,ks=a++b∧DN ⟨true,ks,vs,[]⟩ fr=a.length∧(∀x∈a,Lt x fr)∧∀x∈b,¬Lt x fr:=by
    unfold DN;by_cases h0:fr=[]
    ·rw[if_pos h0];exact⟨[],ks,Z,Z,fun x hx=>(by cases hx),fun x _=>by rw[h0];exact hsf x⟩
    ·rw[if_neg h0];rcases Ju hko (vs:=vs) fr with ⟨a,b,e,q,r1,r2⟩|⟨a,b,e,q,r1,r2⟩
     ·refine⟨a,fr::b,e,by rw[q],r1,fun x hx=>?_⟩
      rcases Aex.1 hx with rfl|hx
      ·exact I3
      ·exact K5 (r2 x hx)
     ·exact⟨a,b,e,by rw[q],r1,fun x hx=>K5 (r2 x hx)⟩
   rw[hi]
   obtain⟨va,vb,rfl,hva⟩:∃va vb,vs=va++vb∧va.length=a.length:=⟨vs.take a.length,vs.drop a.length,(Ahs ..).symm,by rw[Aer,hvl,Aek];omega⟩
   rw[drop_left a b,←hva,drop_left va vb]
   obtain⟨l1,l2,P1,P2,rfl,rfl,g1,g2⟩:=Lf.split n2 hva
   have hl1:∀x∈l1,Lt x.1 fr:=fun x hx=>ha _ (by rw[g1.keys];exact Agl hx)
   have hl2:∀x∈l2,¬Lt x.1 fr:=fun x hx=>hb _ (by rw[g2.keys];exact Agl hx)
   have hko2:KO (l2.map Prod.fst):=by rw[Agj] at hasc;exact(KO.app.1 hasc).2.1
   have hno:∀x∈l1,inR fr to x=false:=fun x hx=>by unfold inR;rw[show Op.bytesLess x.1 fr=true from hl1 x hx];rfl
   have hsel:BA fr to (M - out.length) (l1++l2)=BA fr to (M - out.length) l2:=by
    unfold BA;rw[Aiw,Aiu.2 (fun x hx=>by rw[hno x hx];decide),Afi]
   obtain⟨i1,i2,i3,i4,i5⟩:=RO (to:=to) (tc:=tc+1) g2 hl2 hko2 ho
   refine⟨i1,by rw[hsel];exact i2,fun q=>⟨(i3 q).1,fun hq=>?_⟩,fun q=>?_,1,by rw[hsel,i5],?_⟩
   ·rw[hsel,(i3 q).2]
    have:l1=[]:=by
     cases l1 with
     |nil=>rfl
     |cons x l1=>exact absurd (hl1 x (Aeo ..)) (hf hq x (Afc _ (Aeo ..)))
    subst this
    rw[Afi] at hlne
    exact F0.1 hlne
   ·rw[hsel]
    rcases i4 q with z|⟨z,x,hx,hy⟩
    ·exact .inl z
    ·exact .inr ⟨z,x,Afe _ hx,hy⟩
   ·rw[hsel,Nat.zero_add,Nat.one_mul]
    by_cases hq:f=true
    ·rw[if_pos hq]
     by_cases ho2:(Ek s M to b vb out (tc+1)).on=true
     ·rw[if_pos ho2,(i3 ho2).2]
      have:l1=[]:=by
       cases l1 with
       |nil=>rfl
       |cons x l1=>exact absurd (hl1 x (Aeo ..)) (hf hq x (Afc _ (Aeo ..)))
      subst this
      rw[Afi] at hlne
      have:=F0.1 hlne
      omega
     ·rw[if_neg ho2];omega
    ·rw[if_neg hq];omega
  |succ h=>
   rw[decide_eq_false (Ago _)] at hn
   obtain⟨n1,n2⟩:=hn.inner
   have ef:=Eg hat.sound n1
   obtain⟨ks,cs,rfl⟩:∃ks cs,n=⟨false,ks,[],cs⟩:=⟨_,_,ef⟩
   simp only at n2 hne
   obtain⟨hko,hcl,hrng⟩:=Ch.1 hat.sound
   have hlv:=hat.level (x:=((h+1+1:Nat):Int)) (by show false=_;exact(decide_eq_false (by omega)).symm)
   rw[CF,hlv]
   dsimp only
   rw[if_neg (by simp),if_neg (Ago _)]
   obtain⟨a,b,rfl,hi,ha,hb,hz⟩:∃a b,ks=a++b∧DN ⟨false,ks,[],cs⟩ fr=a.length∧(∀x∈a,¬Lt fr x)∧(∀x∈b,¬Lt x fr)∧(fr=[]→a=[]):=by
    unfold DN;by_cases h0:fr=[]
    ·rw[if_pos h0];exact⟨[],ks,Z,Z,fun x hx=>(by cases hx),fun x _=>by rw[h0];exact hsf x,fun _=>Z⟩
    ·rw[if_neg h0];obtain⟨a,b,e,q,r1,r2⟩:=Iv hat.sound fr;exact⟨a,b,e,by rw[q],r1,fun x hx=>K5 (r2 x hx),fun q=>absurd q h0⟩
   rw[hi]
   obtain⟨ca,cb,rfl,hca⟩:∃ca cb,cs=ca++cb∧ca.length=a.length:=⟨cs.take a.length,cs.drop a.length,(Ahs ..).symm,by rw[Aer,hcl,Aek];omega⟩
   have hcbl:cb.length=b.length+1:=by rw[Aek,Aek] at hcl;omega
   rw[drop_left a b,←hca,drop_left ca cb]
   obtain⟨l1,l2,P2,hl,hl1,g2,hp⟩:∃l1 l2 P2,l=l1++l2∧(∀x∈l1,Lt x.1 fr)∧Kd (Tr s (h+1)) b cb l2 P2∧∀k,(if ca.length=0 then none else(a++b)[ca.length - 1]?)=some k→∀x∈l2,¬Lt x.1 k:=by
    have n2':Kd (Tr s (h+1)) (a++b++[]) (ca++cb++[]) l Q:=by simpa using n2
    obtain⟨l1,m,l2,P1,Pm,P2,rfl,rfl,g1,g2,g3,g4,g5⟩:=n2'.focus (by simpa using hko) hca hcbl;rcases g3 with ⟨_,_,rfl,rfl⟩|⟨k,ks',e,_⟩
    ·refine⟨l1,m,Pm,by simp,fun x hx=>?_,g2,fun k hk x hx=>?_⟩
     ·obtain⟨p,p1,p2⟩:=g1.below x hx;exact HG p2 (ha p p1)
     ·by_cases h0:ca.length=0
      ·rw[if_pos h0] at hk;cases hk
      ·rw[if_neg h0,List.getElem?_append_left (by omega)] at hk;exact g4 k (List.mem_of_getElem? hk) x hx
    ·cases e
   subst hl
   have hko2:KO (l2.map Prod.fst):=by rw[Agj] at hasc;exact(KO.app.1 hasc).2.1
   have hno:∀x∈l1,inR fr to x=false:=fun x hx=>by unfold inR;rw[show Op.bytesLess x.1 fr=true from hl1 x hx];rfl
   have hsel:BA fr to (M - out.length) (l1++l2)=BA fr to (M - out.length) l2:=by
    unfold BA;rw[Aiw,Aiu.2 (fun x hx=>by rw[hno x hx];decide),Afi]
   have w:=RQ (to:=to) (h:=h+1) (fun{k l P out tc f} q1 q2 q3=>W3 (h+1) q1 q2 q3) (f:=f) (tc:=tc+1) g2 hp (fun q x hx=>hf q x (Afe _ hx)) hb hko2 ho
   generalize EI (CF s M fr to (h+1)) to (if ca.length=0 then none else(a++b)[ca.length - 1]?) b cb out (tc+1)=r at w⊢
   obtain⟨w1,w2,w3,w4,n,w5,w6⟩:=w
   refine⟨w1,by rw[hsel];exact w2,fun q=>by rw[hsel];exact w3 q,fun q=>?_,n+1,by rw[hsel,w5];omega,?_⟩
   ·rw[hsel]
    rcases w4 q with z|⟨z,x,hx,hy⟩
    ·exact .inl z
    ·exact .inr ⟨z,x,Afe _ hx,hy⟩
   ·rw[hsel,Nat.succ_mul]
    have:1≤(BA fr to (M - out.length) l2).length+(if f=true then 0 else 1)+(if r.on=true then 0 else 1):=by
     by_cases hq:f=true
     ·by_cases ho2:r.on=true
      ·have:=(w3 ho2).2 hq;omega
      ·rw[if_neg ho2];omega
     ·rw[if_neg hq];omega
    omega
end
end Go.Gk.Tre
end
section
namespace Go.Gk.Tre
open Go Go.Gk Go.Gk.Dev Go.Gk.Cch Go.Gk.Pgr Go.Gk.Chn Go.Gk.Node
attribute [local irreducible] gwp gws xwp
variable{P:Program}{f f1:FuncId}
def NJ(P:Program)(f:FuncId):Prop:=∀{d s dv pv L}{k x:Int},Pg d s dv pv L→
 AA P f [pv,vZ k,vZ x] d L (Ret fun v d' L'=>Le d d'∧∃cs tc,v=.tuple #[.agg cs.toArray,vZ (AX s k x).2]∧Cj d' cs (AX s k x).1∧Pg d' {s with tc:=tc} dv pv L'∧((AX s k x).2=0→tc=s.tc+1))
def VP(a0 a1:Nat):A0:=⟨37,[(.cell 6 (some 4)),(.tmp 7)],(sR (o1 6 (.alo (.agg #[(.bool false),nV,nV,nV]))<|o1 7 (.mv z0) .done) (sR (om 12 0<|om 13 1<|oc 14 a0 [12,13]<|om 11 14<|oe 15 11 0<|oe 16 11 1<|om 8 15<|om 9 16 .done) (.seq (sR (om 17 9<|ob 18 .neq 17 z0 .done) (.cond 18 (sR (o1 19 (.bld [(0,1),(1,1),(2,1),(3,1)] [(.bool false),nV,nV,nV] [])<|om 20 9<|o0 (.st 4 6 19)<|om 7 20 .done) .ret) .skip)) (sR (om 22 8<|oc 23 a1 [22]<|om 21 23<|oe 24 21 0<|oe 25 21 1<|o1 10 (.alo (.agg #[(.bool false),nV,nV,nV]))<|o0 (.st 4 10 24)<|om 9 25 .done) (.seq (sR (om 26 9<|ob 27 .eql 26 z0<|om 28 27<|oT 29 28 (.fld 0 10)<|oT 30 28 (.ld none 29)<|gT 31 28 2<|oT 32 28 (.bin .eql 31 z1)<|oT 33 28 (.eqb true 30 32)<|gP 34 28 33 .done) (.cond 34 (rG (o1 9 (.mv (kZ 200)) .done)) .skip)) (sR (o1 35 (.ld (some 4) 10)<|om 36 9<|o0 (.st 4 6 35)<|om 7 36 .done) .ret))))))⟩
set_option maxRecDepth 4000 in
def Vf{f2}(hd:dec P f=some (VP f1 f2))(h1:Fl P f1)(h2:MG P f2):NJ P f:=by
 intro d s dv pv L k x hp;obtain⟨bp,rfl⟩:=hp.ptr;refine AG hd (Aea Z) ?_;show gwp P _ _ _ _ _;apply Ag;apply AE;refine Dg (fun b6 T6=>?_);refine Ab Z<|Aa<|Ad<|Am Z<|Ab Z<|AY [_] (h1.atT (k:=k) hp) Z Z (fun v d2 L2 hl ⟨a,q,tc,e1,hb,hp2,htc⟩=>?_);subst e1;by_cases hlv:Bs s k
 ·rw[OC hlv];rw[if_pos hlv] at htc;have hr:Bo s k=(D7 (s.bytes k),G0 (s.bytes k)):=by unfold Bo;rw[if_pos hlv]
  have hr1:(Bo s k).1=D7 (s.bytes k):=by rw[hr]
  have hr2:(Bo s k).2=G0 (s.bytes k):=by rw[hr]
  refine AT Z<|Ao Z Z<|Ao Z Z<|Aj Z<|Ab Z<|Aa<|Ag<|Ad<|Ab Z<|AO Z Z<|Aa<|Ar Z (by omega)<|Ak<|Ad<|Aj Z<|Bl Z (h2 hb) (fun u d3 L3 hl3 ⟨q0,cs,q1,q2⟩=>?_);subst q0;subst q1;obtain⟨d4,hk,hv,hi,v1,v2,v3⟩:=DT.Abd q2;obtain⟨d5,hl5,v5,hn5⟩:=F3 v3;refine BS _ _ ((Vs.app v1 _).trans (Vs.app v5 _)) ?_;obtain⟨xa,xc,ya,yc,za,zc,rfl⟩:=Cj.four hn5;have hp5:=(hp2.mono v2).mono hl5;have hL:AX s k x=(D7 (s.bytes k),if G0 (s.bytes k)=0∧(D7 (s.bytes k)).leaf≠decide (x=1) then 200 else G0 (s.bytes k)):=by unfold AX;rw[hr]
  rw[hL];replace hn5:Cj d5 [.bool (D7 (s.bytes k)).leaf,.slice xa (D7 (s.bytes k)).keys.length xc,.slice ya (D7 (s.bytes k)).vals.length yc,.slice za (D7 (s.bytes k)).kids.length zc] (D7 (s.bytes k)):=hn5;refine EN (g:=23) (show _=Value.tuple #[.agg [.bool (D7 (s.bytes k)).leaf,.slice xa (D7 (s.bytes k)).keys.length xc,.slice ya (D7 (s.bytes k)).vals.length yc,.slice za (D7 (s.bytes k)).kids.length zc].toArray,vZ (G0 (s.bytes k))] from Z) ?_;clear hr hr1 hr2 hL q2 v3;generalize D7 (s.bytes k)=n at hn5⊢;generalize G0 (s.bytes k)=e;(refine AT Z<|Ao Z Z<|Ao Z Z<|BP (fun _ _=>?_));rename_i b10 T10;refine Br 0 Z Z Z Z (Aef _) Z ?_;by_cases hz:e=0
  ·subst hz;by_cases hx:n.leaf=decide (x=1)
   ·rw[if_neg (fun q=>q.2 hx)];have hxx:(true ^^(n.leaf==decide (x=1)))=false:=by rw[hx];simp
    (refine Ab Z<|Aa<|Ag<|Ad<|Ab Z<|AN Z Z<|Ae Z<|A8 Z (by omega)<|Af Z<|Ai Z<|Af Z<|Ah Z (Al 0 Z Z)<|Af Z<|Ab Z<|Af Z<|AN Z Z<|Af Z<|HF Z Z<|Ay Z Z<|Aa ?_;apply U7;rfl;(with_reducible assumption);refine Ak<|Ad<|Bf 0 Z Z Z<|Ab Z ?_);refine Br 1 Z Z Z Z (Aef _) Z ?_;(refine Ab Z<|Aa<|Ap ?_);exact A4 [.agg [.bool n.leaf,.slice xa n.keys.length xc,.slice ya n.vals.length yc,.slice za n.kids.length zc].toArray,vZ 0] ⟨AW 1 Z Z Z,Aq Z,trivial⟩ (d':=d5) (L':=L2) (Vs.drop (.cons _ (.cons _ (Aeb _)))) ⟨(hl.trans v2).trans hl5,_,tc,Z,hn5,hp5,fun _=>htc⟩
   ·rw[if_pos ⟨Z,hx⟩];have hxx:(true ^^(n.leaf==decide (x=1)))=true:=by cases hb:n.leaf<;>rw[hb] at hx<;>simp at hx⊢<;>omega
    (refine Ab Z<|Aa<|Ag<|Ad<|Ab Z<|AN Z Z<|Ae Z<|A8 Z (by omega)<|Af Z<|Ai Z<|Af Z<|Ah Z (Al 0 Z Z)<|Af Z<|Ab Z<|Af Z<|AN Z Z<|Af Z<|HF Z Z<|Ay Z Z<|Aa ?_;apply PR;rfl;(with_reducible assumption);refine AE<|Ab Z<|Aa<|Ad<|Bf 0 Z Z Z<|Ab Z ?_);refine Br 1 Z Z Z Z (Aef _) Z ?_;(refine Ab Z<|Aa<|Ap ?_);exact A4 [.agg [.bool n.leaf,.slice xa n.keys.length xc,.slice ya n.vals.length yc,.slice za n.kids.length zc].toArray,vZ 200] ⟨AW 1 Z Z Z,Aq Z,trivial⟩ (d':=d5) (L':=L2) (Vs.drop (.cons _ (.cons _ (Aeb _)))) ⟨(hl.trans v2).trans hl5,_,tc,Z,hn5,hp5,fun _=>htc⟩
  ·rw[if_neg (fun q=>hz q.1)];refine Ab Z<|Aa<|Ag<|Ad<|Ab Z<|AN Z Z<|Ae Z<|A3 Z (by omega)<|An Z<|An Z<|An Z<|An Z<|An Z<|Au Z Z<|Aa<|AS Z<|Ak<|Ad<|Bf 0 Z Z Z<|Ab Z<|Br 1 Z Z Z Z (Aef _) Z ?_;(refine Ab Z<|Aa<|Ap ?_);exact A4 [.agg [.bool n.leaf,.slice xa n.keys.length xc,.slice ya n.vals.length yc,.slice za n.kids.length zc].toArray,vZ e] ⟨AW 1 Z Z Z,Aq Z,trivial⟩ (d':=d5) (L':=L2) (Vs.drop (.cons _ (.cons _ (Aeb _)))) ⟨(hl.trans v2).trans hl5,_,tc,Z,hn5,hp5,fun _=>htc⟩
 ·rw[(O8 hlv).1];rw[if_neg hlv] at htc;have hr:Bo s k=(H7,240):=by unfold Bo;rw[if_neg hlv]
  have hL:AX s k x=(H7,240):=by unfold AX;rw[hr];rfl
  rw[hL];refine AT Z<|Ao Z Z<|Ao Z Z<|Aj Z<|Ab Z<|Aa<|Ag<|Ad<|Ab Z<|AO Z Z<|Aa<|Aw Z (by omega)<|Ad<|BJ Z<|Ab Z<|Br 0 Z Z Z Z (Aef _) Z ?_;(refine Ab Z<|Aa<|Ap ?_);exact A4 [.agg [.bool false,nV,nV,nV].toArray,vZ 240] ⟨AW 0 Z Z Z,Aq Z,trivial⟩ (d':=d2) (L':=L2) (Vs.drop (.cons _ (Aeb _)))
   ⟨hl,_,tc,Z,⟨_,_,_,Z,RSl.nil,RSl.nil,RSl.nil⟩,hp2,fun q=>absurd q (by decide)⟩
def V6:A0:=⟨46,[(.tmp 2),(.tmp 3),(.tmp 4)],(sR (o1 2 (.mv z0)<|o1 3 (.mv z0)<|o1 4 (.mv (.const (.bool false))) .done) (.seq (sR (om 5 0<|oL 6 5<|ob 7 .neq 6 (kZ 7)<|om 8 7<|gF 9 8 0<|oF 10 8 (.idx 1 9 z0)<|oF 11 8 (.ld none 10)<|oF 12 8 (.bin .neq 11 (.const (.int .u8 1)))<|o1 13 (.pick 8 (.const (.bool true)) 12) .done) (.cond 13 (sR (o1 2 (.mv z0)<|o1 3 (.mv z0)<|o1 4 (.mv (.const (.bool false))) .done) .ret) .skip)) (.seq (.reg true (pm 14 0<|p1 15 (.idx 1 14 z1)<|pl 16 15<|p1 17 (.cvi .i64 16)<|p1 18 (.bin .shl 17 (.const (.int .u64 8)))<|pm 19 0<|p1 20 (.idx 1 19 z2)<|pl 21 20<|p1 22 (.cvi .i64 21)<|p1 23 (.bin .or 18 22)<|pm 24 0<|p1 25 (.idx 1 24 (kZ 3))<|pl 26 25<|p1 27 (.cvi .i64 26)<|p1 28 (.bin .shl 27 (.const (.int .u64 24)))<|pm 29 0<|p1 30 (.idx 1 29 (kZ 4))<|pl 31 30<|p1 32 (.cvi .i64 31)<|p1 33 (.bin .shl 32 (.const (.int .u64 16)))<|p1 34 (.bin .or 28 33)<|pm 35 0<|p1 36 (.idx 1 35 (kZ 5))<|pl 37 36<|p1 38 (.cvi .i64 37)<|p1 39 (.bin .shl 38 (.const (.int .u64 8)))<|p1 40 (.bin .or 34 39)<|pm 41 0<|p1 42 (.idx 1 41 (kZ 6))<|pl 43 42<|p1 44 (.cvi .i64 43)<|p1 45 (.bin .or 40 44)<|pm 2 23<|pm 3 45<|p1 4 (.mv (.const (.bool true))) .done)) .ret)))⟩
def S5(hd:dec P f=some V6):Ic P f:=TU hd
def KG(P:Program)(f:FuncId):Prop:=∀{d s dv pv w L b},Pg d s dv pv L→AJ d w b→
 AA P f [pv,w] d L (Ret fun v d' L'=>Le d d'∧∃u tc,v=.tuple #[u,vZ (Cu s b).2]∧AJ d' u (Cu s b).1∧Pg d' {s with tc:=tc} dv pv L'∧((Cu s b).2=0→tc=s.tc+D3 b))
def TG(a0 a1:Nat):A0:=⟨36,[(.tmp 4),(.tmp 5)],(sR (o1 4 (.mv nS)<|o1 5 (.mv z0) .done) (.seq (sR (om 9 1<|oL 10 9<|ob 11 .gtr 10 z0<|om 12 11<|gT 13 12 1<|oT 14 12 (.idx 1 13 z0)<|oT 15 12 (.ld none 14)<|oT 16 12 (.bin .eql 15 (.const (.int .u8 0)))<|gP 17 12 16 .done) (.cond 17 (sR (o1 18 (.bsl 0 1 [(.int .u8 0)] [])<|om 19 1<|o1 20 (.sl 1 19 (some z1) none none)<|o1 21 (.app 1 1 [(.int .u8 0)] 18 20)<|om 4 21<|o1 5 (.mv z0) .done) .ret) .skip)) (sR (om 23 1<|oc 24 a0 [23]<|om 22 24<|oe 25 22 0<|oe 26 22 1<|oe 27 22 2<|om 6 25<|om 7 26<|om 8 27 .done) (.seq (sR (om 28 8<|o1 29 (.un .not 28) .done) (.cond 29 (sR (o1 4 (.mv nS)<|o1 5 (.mv (kZ 200)) .done) .ret) .skip)) (sR (om 30 0<|om 31 6<|om 32 7<|oc 33 a1 [30,31,32]<|oe 34 33 0<|oe 35 33 1<|om 4 34<|om 5 35 .done) .ret)))))⟩
set_option maxRecDepth 4000 in
def Si{f2}(hd:dec P f=some (TG f1 f2))(h2:Ic P f1)(h3:Kp P f2):KG P f:=by
 intro d s dv pv w L b hp hw;obtain⟨bp,rfl⟩:=hp.ptr;obtain⟨wa,wc,rfl⟩:=RSl.val hw;refine AG hd (Aea Z) ?_;show gwp P _ _ _ _ _;by_cases h0:0<b.length
 ·have g0:=CW (b:=b) (i:=0) h0;by_cases e0:b[0]=0
  ·have hb0:=Ri (b:=b) Z h0 (n:=0) (by rw[g0,e0];rfl);have hi:inB b=true:=by unfold inB;rw[g0,e0];simp[h0]
   have hF:Cu s b=(b.drop 1,0):=by unfold Cu;rw[if_pos hi]
   have hT:D3 b=0:=by unfold D3;rw[if_pos hi]
   rw[hF,hT];clear hi hF hT;have hwl:=hw.BF;(refine Ad<|Aj Z<|Ab Z<|Aa<|Ag<|Ad<|Aj Z<|AI Z<|Bx Z Z<|Ae Z<|A8 Z (by omega)<|Af Z<|Aj Z<|Af Z<|Bg (sz:=1) (R:=AH) (by rfl) (by assumption) (by rfl) Z (by omega) ?_;rintro _ _ _ _ _ rfl;refine Af Z<|Ah Z (BQ (by assumption) Z)<|Af Z<|AN Z Z<|Ay Z Z<|Aa<|Aw Z (by omega)<|Ad ?_);refine CZ (cs:=[]) (by simp) (by simp[Instr.fill,Bq]) (fun b18 T18=>?_);(apply Aj;rfl);refine Eb (R:=AH) (sz:=1) (n:=1) Z hw Z Z (by omega) (fun v' hv'=>?_);refine IL (R:=AH) (sz:=1) (xs:=[]) AL Z (As.JR (R:=AH) (sz:=1)) Z (RSl.src hv' ES (by omega) _) (by omega) (by simp;omega) (by simp;omega) (fun a c' d' hl hu=>?_);rewrite [Afi] at hu⊢;(refine Aj Z<|Ab Z<|Aa<|Ap ?_);exact Cw Z Z (Aeb _) ⟨hl,_,s.tc,Z,hu,hp.mono hl,fun _=>Z⟩
  ·have hb0:=Ri (b:=b) Z h0 (n:=_) (congrArg UInt8.toNat g0);have hb1:b[0].toNat≠0:=fun q=>e0 (UInt8.toNat_inj.1 q);(refine Ad<|Aj Z<|Ab Z<|Aa<|Ag<|Ad<|Aj Z<|AI Z<|Bx Z Z<|Ae Z<|A8 Z (by omega)<|Af Z<|Aj Z<|Af Z<|Bg (sz:=1) (R:=AH) (by rfl) (by assumption) (by rfl) Z (by omega) ?_;rintro _ _ _ _ _ rfl;refine Af Z<|Ah Z (BQ (by assumption) Z)<|Af Z<|AN Z Z<|Ay Z Z<|Aa<|Ar Z (by omega)<|Ak<|Ad<|Aj Z ?_);have hi:inB b=false:=by unfold inB;rw[g0];simp[e0]
   cases hf:Fm b with
   |true=>
    have hF:Cu s b=(Chn.BT s (Fz b) (ED b)).2:=by unfold Cu;rw[hi,if_neg (by decide),hf,if_pos Z]
    have hT:D3 b=AP (ED b):=by unfold D3;rw[hi,if_neg (by decide)]
    rw[hF,hT]
    have hc:=h2 hw
    rw[hf,if_pos Z,if_pos Z] at hc
    clear hi hf hF hT
    refine BE Z hc ?_
    (refine AT Z<|Ao Z Z<|Ao Z Z<|Ao Z Z<|Ab Z<|Ab Z<|Ae Z<|Aa<|Ag<|Ad<|Ae Z<|Bn Z<|Aa<|AS Z<|Ak<|Ad<|Am Z<|Ab Z<|Ab Z ?_)
    refine AY [] (h3 (k:=Fz b) (size:=ED b) hp) Z Z (fun v d2 L2 hl ⟨_,u,tc,e1,hu,hp2,htc⟩=>?_)
    subst e1
    rw[Int.toNat_natCast] at htc
    (refine Ao Z Z<|Ao Z Z<|AR<|Ab Z<|Aa<|Ap ?_)
    exact Cw Z Z (Aeb _) ⟨hl,u,tc,Z,hu,hp2,htc⟩
   |false=>
    have hF:Cu s b=([],200):=by unfold Cu;rw[hi,if_neg (by decide),hf,if_neg (by decide)]
    rw[hF]
    have hc:=h2 hw
    rw[hf,if_neg (by decide),if_neg (by decide)] at hc
    clear hi hf hF
    refine BE Z hc ?_
    (refine AT Z<|Ao Z Z<|Ao Z Z<|Ao Z Z<|Ab Z<|Ab Z<|Ae Z<|Aa<|Ag<|Ad<|Ae Z<|Bn Z<|Aa<|Bc Z<|Ad<|Aj Z<|Ab Z<|Aa<|Ap ?_)
    exact Cw Z Z (Aeb _) ⟨Le.refl _,_,s.tc,Z,RSl.nil,hp,fun q=>absurd (show(200:Int)=0 from q) (by decide)⟩
 ·(refine Ad<|Aj Z<|Ab Z<|Aa<|Ag<|Ad<|Aj Z<|AI Z<|Bx Z Z<|Ae Z<|A3 Z (by omega)<|An Z<|An Z<|An Z<|An Z<|Au Z Z<|Aa<|AS Z<|Ak<|Ad<|Aj Z ?_);have hi:inB b=false:=by unfold inB;simp[h0]
  have hf:Fm b=false:=by
   unfold Fm;rw[decide_eq_false (by omega)];rfl
  have hF:Cu s b=([],200):=by unfold Cu;rw[hi,if_neg (by decide),hf,if_neg (by decide)]
  rw[hF];have hc:=h2 hw;rw[hf,if_neg (by decide),if_neg (by decide)] at hc;clear hi hf hF;refine BE Z hc ?_;(refine AT Z<|Ao Z Z<|Ao Z Z<|Ao Z Z<|Ab Z<|Ab Z<|Ae Z<|Aa<|Ag<|Ad<|Ae Z<|Bn Z<|Aa<|Bc Z<|Ad<|Aj Z<|Ab Z<|Aa<|Ap ?_);exact Cw Z Z (Aeb _) ⟨Le.refl _,_,s.tc,Z,RSl.nil,hp,fun q=>absurd (show(200:Int)=0 from q) (by decide)⟩
def Nu(P:Program)(f:FuncId):Prop:=∀{d s dv pv w L b},PgT d s dv pv L→AJ d w b→b.length≤16384→
 AA P f [pv,w] d L (Ret fun v d' L'=>Le d d'∧∃u,v=.tuple #[u,vZ (BR s b).2.2]∧AJ d' u (BR s b).2.1∧PgT d' (BR s b).1 dv pv L')
def Wc(a0:Nat):A0:=⟨41,[(.tmp 4),(.tmp 5)],(sR (o1 4 (.mv nS)<|o1 5 (.mv z0) .done) (.seq (sR (om 9 1<|oL 10 9<|ob 11 .leq 10 (kZ 15) .done) (.cond 11 (sR (o1 12 (.bsl 1 1 [(.int .u8 0)] [(0,(.const (.int .u8 0)))])<|om 13 1<|o1 14 (.app 1 1 [(.int .u8 0)] 12 13)<|om 4 14<|o1 5 (.mv z0) .done) .ret) .skip)) (sR (om 16 0<|om 17 1<|oc 18 a0 [16,17]<|om 15 18<|oe 19 15 0<|oe 20 15 1<|om 6 19<|om 7 20 .done) (sR (om 21 1<|oL 22 21<|om 8 22 .done) (sR (om 23 6<|ob 24 .shr 23 (.const (.int .u64 8))<|o1 25 (.cvi .u8 24)<|om 26 6<|o1 27 (.cvi .u8 26)<|om 28 8<|ob 29 .shr 28 (.const (.int .u64 24))<|o1 30 (.cvi .u8 29)<|om 31 8<|ob 32 .shr 31 (.const (.int .u64 16))<|o1 33 (.cvi .u8 32)<|om 34 8<|ob 35 .shr 34 (.const (.int .u64 8))<|o1 36 (.cvi .u8 35)<|om 37 8<|o1 38 (.cvi .u8 37)<|o1 39 (.bsl 7 1 [(.int .u8 0)] [(0,(.const (.int .u8 1))),(1,25),(2,27),(3,30),(4,33),(5,36),(6,38)])<|om 40 7<|om 4 39<|om 5 40 .done) .ret)))))⟩
set_option maxRecDepth 4000 in
def U1(hd:dec P f=some (Wc f1))(h1:MF P f1):Nu P f:=by
 intro d s dv pv w L b hp hw hbl;obtain⟨bp,rfl⟩:=hp.ptr;obtain⟨wa,wc,rfl⟩:=RSl.val hw;refine AG hd (Aea Z) ?_;show gwp P _ _ _ _ _;by_cases h15:b.length≤15
 ·have hF:BR s b=(s,0::b,0):=by unfold BR;rw[if_pos h15]
  rw[hF];refine Ad<|Aj Z<|Ab Z<|Aa<|Ag<|Ad<|Aj Z<|AI Z<|Ga Z Z<|Aa<|Aw Z (by omega)<|Ad<|Dq (v0:=.int .u8 0) Z Z (fun b3 T3=>?_);(apply Aj;rfl);refine IL (R:=AH) (sz:=1) (xs:=[0]) AL Z (As.D2 (x:=(0:UInt8)) Z Z) Z (RSl.src hw ES (by omega) _) (by omega) (by simp;omega) (by simp;omega) (fun a c' d' hl hu=>?_);(refine Aj Z<|Ab Z<|Aa<|Ap ?_);exact Cw Z Z (Aeb _) ⟨hl,_,Z,hu,hp.mono hl⟩
 ·have hF:BR s b=((BK s b).1,FM (BK s b).2.1 b.length,(BK s b).2.2):=by unfold BR;rw[if_neg h15]
  rw[hF];refine Ad<|Aj Z<|Ab Z<|Aa<|Ag<|Ad<|Aj Z<|AI Z<|Ga Z Z<|Aa<|Ar Z (by omega)<|Ak<|Ad<|Am Z<|Aj Z<|AY [] (Adp h1 hp hw hbl) Z Z (fun v d2 L2 hl ⟨_,e1,hp2⟩=>?_);subst e1;have hrg:=Uj (b:=b) hp.EL;refine AT Z<|Ao Z Z<|Ao Z Z<|Ab Z<|Ab Z<|Aa<|Ad<|Aj Z<|AI Z<|Ab Z<|Aa<|Ad<|Ab Z<|Gs Z Z (by decide)<|C8 Z<|Ab Z<|C8 Z<|Ab Z<|Qd 24 ((b.length:Int) / 16777216) Z Z (by omega) (by omega) Z ?_;refine C8 Z<|Ab Z<|Qd 16 ((b.length:Int) / 65536) Z Z (by omega) (by omega) Z ?_;refine C8 Z<|Ab Z<|Gs Z Z (by decide)<|C8 Z<|Ab Z<|C8 Z<|ZX (a0:=1) (a1:=bI ((BK s b).2.1 / 256)) (a2:=bI (BK s b).2.1) (a3:=bI ((b.length:Int) / 16777216)) (a4:=bI ((b.length:Int) / 65536)) (a5:=bI ((b.length:Int) / 256)) (a6:=bI b.length) Z Z Z Z Z Z Z (fun b9 T9=>?_);(refine Ab Z<|Aj Z<|Ab Z<|Aa<|Ap ?_);exact A4 [.slice (some ⟨b9,0,none⟩) 7 7,vZ (BK s b).2.2] ⟨Aq Z,Aq Z,trivial⟩ (d':=join d2 (bx b9 T9 ((FM (BK s b).2.1 b.length).map Av))) (L':=L2) Vs.freeze
   ⟨hl.trans (Le.Az _ _),_,Z,As.rsl (R:=AH) (sz:=1) (d:=d2) (As.QW Z Z (by simp[FM])) AL (by omega) (Le.Az _ _) (Le.A6 _ _),hp2.mono (Le.Az _ _)⟩
def RBp(d:Ac)(cs:List Value)(x:KV):Prop:=∃k v,cs=[k,v]∧AJ d k x.1∧AJ d v x.2
def DJ:FZ RBp:=fun hl ⟨k,v,e,a,b⟩=>⟨k,v,e,RSl.mono (R:=AH) AL a hl,RSl.mono (R:=AH) AL b hl⟩
def AaQ:FC RBp:=fun d cs x ⟨k,v,e,a,b⟩=>by
 subst e;obtain⟨_,_,rfl⟩:=RSl.val a;obtain⟨_,_,rfl⟩:=RSl.val b;rfl
def Ady{pan:List PanicEntry→AU}{Qn:Env→AU}{Ls L ρ d s}{t:Nat}{x u v}(ex:ev ρ x=.agg [u,v].toArray)(h:∀b T,gws P pan Qn s Ls (upd ρ t (.slice (some ⟨b,0,none⟩) 1 1)) d (bx b T [u,v]::L)):
  gws P pan Qn (.op false ⟨some t,none,.bsl 1 2 [nV,nV] [(0,x)]⟩ s) Ls ρ d L:=by
 refine CZ (by omega) ?_ h
 simp[Instr.fill,Bq,Afb,List.range.loop,ex,Value.cells]
def TN{pan:List PanicEntry→AU}{Qn:Env→AU}{Ls L ρ d s}{t:Nat}{tk:Bool}{x y a a'}{n c n' c':Nat}(ex:ev ρ x=.slice a n c)(ey:ev ρ y=.slice a' n' c')
  (h:gws P pan Qn s Ls (upd ρ t (.agg [.slice a n c,.slice a' n' c'].toArray)) d L):gws P pan Qn (.op tk ⟨some t,none,.bld [(0,1),(1,1)] [nV,nV] [(0,x),(1,y)]⟩ s) Ls ρ d L:=
 BJ (cs:=[.slice a n c,.slice a' n' c']) (by simp[Instr.fill,ex,ey,Value.cells]) h
def JY(P:Program)(f:FuncId):Prop:=∀{d s}{n:Nat}{dv pv kv cv ov L}{bp bo bm:Nat}{To ro}{most:Int}{key cell out},Pg d {s with tc:=n} dv pv L→AJ d kv key→AJ d cv cell→
 DC d bp 0 pv→DC d bm 0 (vZ most)→As 2 RBp d ov out ro→out.length≤1000000→
 AA P f [kv,cv,pZ bp,pZ bo,pZ bm] d (bx bo To [ov]::ro::L) (Ret fun v d' L'=>Le d d'∧∃ov' ro' L2 tc,v=.tuple #[.bool (FA s most key cell out n).on,vZ (FA s most key cell out n).e]∧L'=bx bo To [ov']::ro'::L2∧
  As 2 RBp d' ov' (FA s most key cell out n).out ro'∧Pg d' {s with tc:=tc} dv pv L2∧((FA s most key cell out n).e=0→tc=(FA s most key cell out n).tc))
def QY(a0:Nat):A0:=⟨32,[(.tmp 7),(.tmp 8)],(sR (o1 7 (.mv (.const (.bool false)))<|o1 8 (.mv z0) .done) (sR (ol 12 2<|om 13 1<|oc 14 a0 [12,13]<|om 11 14<|oe 15 11 0<|oe 16 11 1<|om 9 15<|om 10 16 .done) (.seq (sR (om 17 10<|ob 18 .eql 17 z0 .done) (.cond 18 (.reg true (pm 21 0<|pm 23 9 (.par (o1 20 (.bsl 0 1 [(.int .u8 0)] []) (o1 22 (.app 1 1 [(.int .u8 0)] 20 21) (p1 24 (.bld [(0,1),(1,1)] [nV,nV] [(0,22),(1,23)]) (o1 25 (.bsl 1 2 [nV,nV] [(0,24)]) .done)))) (ol 19 3 .done) (o1 26 (.app 2 48 [nV,nV] 19 25) (.bar (o0 (.st 1 3 26) .done)))))) .skip)) (sR (ol 27 3<|oL 28 27<|ol 29 4<|ob 30 .lss 28 29<|om 31 10<|om 7 30<|om 8 31 .done) .ret))))⟩
set_option maxRecDepth 4000 in
set_option maxHeartbeats 1000000 in
def U8(hd:I4 P f=some (QY f1))(h1:KG P f1):JY P f:=by
 intro d s n dv pv kv cv ov L bp bo bm To ro most key cell out hp hk hc hbp hbm ho hol;obtain⟨pb,rfl⟩:=hp.ptr;obtain⟨ka,kc,rfl⟩:=RSl.val hk;obtain⟨ca,cc,rfl⟩:=RSl.val hc;obtain⟨oa,oc,rfl⟩:=ho.val;have hkl:=hk.BF;refine AG hd (Aea Z) ?_;show gwp P _ _ _ _ _;refine Ad<|Ae Z<|Ab Z<|Aa<|Ad<|Ah Z (BB (by assumption))<|Aj Z<|AY [_,_] (h1 hp hc) Z Z (fun v d2 L2 hl ⟨_,u,tc,e1,hu,hp2,htc⟩=>?_);subst e1;rw[NF] at hu htc;rw[NF];obtain⟨ua,uc,rfl⟩:=hu.val;have ho2:As 2 RBp d2 (.slice oa out.length oc) out ro:=As.mono (R:=RBp) DJ ho hl;have hk2:RSl 1 AH d2 (.slice ka key.length kc) key:=RSl.mono (R:=AH) AL hk hl;have hbm2:=hbm.mono hl;have hp2:Pg d2 {s with tc:=tc} dv (pZ pb) L2:=hp2;have htc:(Cu s cell).2=0→tc=n+D3 cell:=htc;by_cases he:(Cu s cell).2=0
 ·have ht:FA s most key cell out n=⟨out++[(key,(Cu s cell).1)],n+D3 cell,decide (((out++[(key,(Cu s cell).1)]).length:Int)<most),0⟩:=by unfold FA;simp[he]
  have htc2:=htc he;rw[ht,he];clear ht he htc;generalize (Cu s cell).1=vb at hu⊢;refine AT Z<|Ao Z Z<|Ao Z Z<|Aj Z<|Ab Z<|Aa<|Ag<|Ad<|Ab Z<|AN Z Z<|Aa<|Aw Z (by omega)<|O4 (bx bo To [.slice oa out.length oc]::L2) [ro] (Vs.perm (Aem _ (Aei (l₁:=[ro]) (l₂:=L2)))) ?_;refine Aj Z<|Aj Z<|FQ (α:=Value×Nat×TypeId) (β:=Unit) [(3,pZ bo),(4,pZ bm),(10,vZ 0)]
   (fun x=>[(25,.slice (some ⟨x.2.1,0,none⟩) 1 1)]) (fun x d L=>RBp d [x.1,.slice ua vb.length uc] (key,vb)∧L=[bx x.2.1 x.2.2 [x.1,.slice ua vb.length uc]]) (fun _=>[(19,.slice oa out.length oc)]) (fun _ _ L=>L=[ro]) [] [ro] Z
   (fun x d d' M hl h=>⟨DJ hl h.1,h.2⟩) (fun _ _ _ _ _ h=>h) (fun _=>Z) (fun _=>Z) Z ⟨Z,Z,Z,trivial⟩ ?_ ?_ ?_
  ·refine CZ (cs:=[]) (by simp) (by simp[Instr.fill,Bq]) (fun b20 T20=>?_);refine IL (R:=AH) (sz:=1) (xs:=[]) AL Z (As.JR (R:=AH) (sz:=1)) Z (RSl.src hk2 ES (by omega) _) (by omega) (by simp;omega) (by simp;omega) (fun a c' d3 hl3 hu3=>?_);rewrite [Afi] at hu3⊢;refine TN Z Z ?_;refine Ady Z (fun b25 T25=>?_);(apply AZ);exact⟨_,Z,(.slice a key.length c',b25,T25),⟨Z,trivial⟩,⟨_,_,Z,hu3,RSl.mono (R:=AH) AL hu hl3⟩,Z⟩
  ·(refine Ah Z (Al 0 Z Z)<|AZ ?_);exact⟨_,Z,(),⟨Z,trivial⟩,Z⟩
  rintro⟨kv',b25,T25⟩ - ρ d4 M1 M2 hl4 ⟨hM0,hM1⟩ hM2;subst hM1;subst hM2;simp only at hM0⊢;refine Dj (R:=RBp) 0 Z Z (As.mono (R:=RBp) DJ ho2 hl4) Z (As.D2 Z hM0) AaQ (by omega) (by simp;omega) (by simp;omega) (fun v5 h5 o5=>?_);obtain⟨a5,c5,rfl⟩:=o5.val;have hbm4:=hbm2.mono hl4;(apply Cd);refine A7 0 [.slice a5 (out++[(key,vb)]).length c5] Z Z Z Z (Aea Z) Z Z ?_;(refine Aa<|Ad<|Ah Z (Al 0 Z Z)<|AI Z<|Ah Z (BB (by assumption))<|AB Z Z<|Ab Z<|Ae Z<|Ab Z<|Aa<|Ap ?_);exact A4 [.bool (decide (((out++[(key,vb)]).length:Int)<most)),vZ 0] ⟨Aq Z,Aq Z,trivial⟩ (d':=d4) (L':=bx bo To [.slice a5 (out++[(key,vb)]).length c5]::h5::L2) (Vs.perm (Aem _ (Aei (l₁:=L2) (l₂:=[h5]))))
   ⟨hl.trans hl4,_,h5,L2,tc,Z,Z,o5,hp2.mono hl4,fun _=>htc2⟩
 ·have ht:FA s most key cell out n=⟨out,n+D3 cell,decide ((out.length:Int)<most),(Cu s cell).2⟩:=by unfold FA;simp[he]
  rw[ht];clear ht htc;(refine AT Z<|Ao Z Z<|Ao Z Z<|Aj Z<|Ab Z<|Aa<|Ag<|Ad<|Ab Z<|AN Z Z<|Aa<|Ar Z (by omega)<|Ak<|Ad<|Ah Z (Al 0 Z Z)<|AI Z<|Ah Z (BB (by assumption))<|AB Z Z<|Ab Z<|Ae Z<|Ab Z<|Aa<|Ap ?_);exact A4 [.bool (decide ((out.length:Int)<most)),vZ (Cu s cell).2] ⟨Aq Z,Aq Z,trivial⟩ (d':=d2) (L':=bx bo To [.slice oa out.length oc]::ro::L2) (Vs.refl _ _)
   ⟨hl,_,ro,L2,tc,Z,Z,ho2,hp2,fun q=>absurd q he⟩
end Go.Gk.Tre
end
section
namespace Go.Gk
open Go
section
def Vs.Em{d h h' L}{i:Nat}(hi:L[i]?=some h):Vs d (h'::L) d (h::L.set i h'):=by
 obtain⟨A,B,rfl,e2⟩:=Fq hi h';rw[e2];refine Vs.perm ?_;refine(Aem h' Afj).trans ((Afa h h' _).trans (Aem h List.perm_middle.symm))
section
variable {P:Program}{pan:List PanicEntry→AU}{Qn:Env→AU}{Ls L:List Ac}{ρ:Env}{d:Ac}{s:GS}{t:Nat}
end
end
end Go.Gk
end
section
namespace Go.Gk.Tre
open Go Go.Gk Go.Gk.Dev Go.Gk.Cch Go.Gk.Pgr Go.Gk.Chn Go.Gk.Node
attribute [local irreducible] gwp gws xwp
def P5(P:Program)(f:FuncId):Prop:=∀{d s dv pv w L cs}{n:AK}{b},PgT d s dv pv L→Cj d cs n→A9 n≤1000000000000→AJ d w b→
 AA P f [pv,.agg cs.toArray,w] d L (Ret fun v d' L'=>Le d d'∧∃q u,v=.tuple #[.agg [vZ q,u].toArray,vZ (Bb s (-1) n).2.2]∧((Bb s (-1) n).2.2=0→q=(Bb s (-1) n).2.1∧u=w)∧(∃a m c,u=.slice a m c)∧PgT d' (Bb s (-1) n).1 dv pv L')
def X4(a0 a1 a2:Nat):A0:=⟨36,[(.cell 6 (some 2)),(.tmp 7)],(sR (o1 4 (.box 1)<|o1 6 (.alo (.agg #[(vZ 0),nV]))<|o1 7 (.mv z0) .done) (sR (o1 12 (.ld (some 4) 4)<|oc 13 a0 [12]<|om 11 13<|oe 14 11 0<|oe 15 11 1<|om 8 14<|om 9 15 .done) (.seq (sR (om 16 9<|ob 17 .neq 16 z0 .done) (.cond 17 (sR (o1 18 (.bld [(0,1),(1,1)] [(vZ 0),nV] [])<|om 19 9<|o0 (.st 2 6 18)<|om 7 19 .done) .ret) .skip)) (sR (om 21 0<|oc 22 a1 [21]<|om 20 22<|oe 23 20 0<|oe 24 20 1<|om 10 23<|om 9 24 .done) (.seq (sR (om 25 9<|ob 26 .neq 25 z0 .done) (.cond 26 (sR (o1 27 (.bld [(0,1),(1,1)] [(vZ 0),nV] [])<|om 28 9<|o0 (.st 2 6 27)<|om 7 28 .done) .ret) .skip)) (sR (om 29 10<|om 30 2<|o1 31 (.bld [(0,1),(1,1)] [(vZ 0),nV] [(0,29),(1,30)])<|om 32 0<|om 33 10<|om 34 8<|oc 35 a2 [32,33,34]<|o0 (.st 2 6 31)<|om 7 35 .done) .ret))))))⟩
set_option maxRecDepth 4000 in
def W5{P f f1 f2 f3}(hd:dec P f=some (X4 f1 f2 f3))(h1:IN P f1)(h3:Pgr.Ff P f2)(h2:Jv P f3):P5 P f:=by
 intro d s dv pv w L cs n b hp hn hz hw;obtain⟨bp,rfl⟩:=hp.ptr;obtain⟨wa,wc,rfl⟩:=RSl.val hw;have hn0:=hn;obtain⟨ka,kc,va,vc,ia,ic,rfl⟩:=Cj.four hn;refine AG hd (Aea Z) ?_;show gwp P _ _ _ _ _;apply Ag;apply AE;refine Ck Z (fun b4 T4=>?_);(refine BP (fun _ _=>Ab Z<|Aa<|Ad<|Bf 1 Z Z Z ?_));refine Bl Z (Qo h1 hn0 hz) (fun v d2 L2 _ ⟨e0,u,g,e1,e2,hg⟩=>?_);subst e0;subst e1;subst e2;obtain⟨ua,uc,rfl⟩:=hg.val;cases hr:Bp n with
 |false=>
  have hF:Bb s (-1) n=(s,0,200):=by unfold Bb;rw[hr,if_neg (by decide)]
  rw[hF]
  rw[hr,if_neg (by decide)] at hg
  rw[if_neg (by decide),if_neg (by decide)]
  clear hr hF
  (refine AT Z<|Ao Z Z<|Ao Z Z<|Aj Z<|Ab Z<|Aa<|Ag<|Ad<|Ab Z<|AO Z Z<|Aa<|Aw Z (by omega)<|Ad<|BJ Z<|Ab Z ?_)
  refine EV (cs:=[vZ 0,nV]) 1 Z Z Z Z Z Z ?_
  (refine Ab Z<|Aa<|Ap ?_)
  exact Dc (L':=L) [.agg [vZ 0,nV].toArray,vZ 200] ⟨AW 1 Z Z Z,Aq Z,trivial⟩ (.cons _ (.cons _ (.cons _ (Aeb _)))) ⟨Le.refl _,0,_,Z,fun h=>absurd h (show¬(200:Int)=0 by decide),⟨_,_,_,Z⟩,hp⟩
 |true=>
  rw[hr,if_pos Z] at hg
  rw[if_pos Z,if_pos Z]
  obtain⟨d3,hle,v1,hb⟩:∃d3,Le d2 d3∧Vs d2 [g] d3 []∧AJ d3 (.slice ua (B4 n).length uc) (B4 n):=⟨join d2 g,Le.Az _ _,Vs.freeze,As.rsl (R:=AH) (sz:=1) hg AL (by omega) (Le.Az _ _) (Le.A6 _ _)⟩
  have hp3:=hp.mono hle
  refine BS _ _ (Vs.app v1 _) ?_
  have hP:Bb s (-1) n=if s.AV.2.2≠0 then(s.AV.1,0,s.AV.2.2)
    else((s.AV.1.put s.AV.2.1 (B4 n)).1,s.AV.2.1,(s.AV.1.put s.AV.2.1 (B4 n)).2):=by unfold Bb;rw[hr,if_pos Z,if_neg (by omega),if_neg (show¬((0:Int)≤ -1) by omega)]
  clear hr
  generalize B4 n=pg at hb hP
  (refine AT Z<|Ao Z Z<|Ao Z Z<|Aj Z<|Ab Z<|Aa<|Ag<|Ad<|Ab Z<|AO Z Z<|Aa<|Ar Z (by omega)<|Ak<|Ad<|Am Z ?_)
  refine AY [_,_] (Yi h3 hp3) Z Z (fun w d5 L5 hl5 ⟨e5,hp5⟩=>?_)
  subst e5
  have hb5:=RSl.mono (R:=AH) AL hb hl5
  by_cases ht:s.AV.2.2=0
  ·rw[if_neg (fun q=>q ht)] at hP
   rw[ht,hP]
   (refine AT Z<|Ao Z Z<|Ao Z Z<|Ab Z<|Ab Z<|Aa<|Ag<|Ad<|Ab Z<|AO Z Z<|Aa<|Ar Z (by omega)<|Ak<|Ad<|Ab Z<|Aj Z<|BJ Z<|Am Z<|Ab Z<|Aj Z ?_)
   refine AY [_,_] (XK h2 hp5 (k:=s.AV.2.1) hb5) Z Z (fun w d7 L7 hl7 ⟨e7,hp7⟩=>?_)
   subst e7
   skip
   refine EV (cs:=[vZ s.AV.2.1,.slice wa b.length wc]) 0 Z Z Z Z Z Z ?_
   (refine Ab Z<|Aa<|Ap ?_)
   exact Dc (L':=L7) [.agg [vZ s.AV.2.1,.slice wa b.length wc].toArray,vZ (s.AV.1.put s.AV.2.1 pg).2] ⟨AW 0 Z Z Z,Aq Z,trivial⟩ (.cons _ (.cons _ (Aeb _))) ⟨(hle.trans hl5).trans hl7,_,_,Z,fun _=>⟨Z,Z⟩,⟨_,_,_,Z⟩,hp7⟩
  ·rw[if_pos ht] at hP
   rw[hP]
   (refine AT Z<|Ao Z Z<|Ao Z Z<|Ab Z<|Ab Z<|Aa<|Ag<|Ad<|Ab Z<|AO Z Z<|Aa<|Aw Z (by omega)<|Ad<|BJ Z<|Ab Z ?_)
   refine EV (cs:=[vZ 0,nV]) 0 Z Z Z Z Z Z ?_
   (refine Ab Z<|Aa<|Ap ?_)
   exact Dc (L':=L5) [.agg [vZ 0,nV].toArray,vZ s.AV.2.2] ⟨AW 0 Z Z Z,Aq Z,trivial⟩ (.cons _ (.cons _ (Aeb _))) ⟨hle.trans hl5,0,_,Z,fun h=>absurd h ht,⟨_,_,_,Z⟩,hp5⟩
def wrB(l:List KV)(i:Nat):Bool:=decide ((l.getD i ([],[])).1.length<1)||decide (64<(l.getD i ([],[])).1.length)||(decide (0<i)&& decide (0≤Lib.compareBytes (l.getD (i - 1) ([],[])).1 (l.getD i ([],[])).1))
def Fj(l:List KV):Int:=if (Afb l.length).any (wrB l) then 2 else if l.any (fun x=>decide (16384<x.2.length)) then 3 else 0
def KN(P:Program)(f:FuncId):Prop:=∀{d w l},RSl 2 RBp d w l→CP P f [w] d (vZ (Fj l))
def KQ{l}{i:Nat}(hi:i<l.length)(h:wrB l i=true):Fj l=2:=by
 unfold Fj;rw[if_pos (Aji.2 ⟨i,Ahj.2 hi,h⟩)]
def Qq{l}(h:∀j,j<l.length→wrB l j=false):Fj l=if l.any (fun x=>decide (16384<x.2.length)) then 3 else 0:=by
 unfold Fj;rw[if_neg];intro q;obtain⟨j,q1,q2⟩:=Aji.1 q;rw[h j (Ahj.1 q1)] at q2;cases q2
def TE{l}{i:Nat}(h:∀j,j<l.length→wrB l j=false)(hi:i<l.length)(hx:16384<l[i].2.length):Fj l=3:=by
 rw[Qq h,if_pos (Aji.2 ⟨l[i],Aey hi,by simpa using hx⟩)]
def V3{l}(h:∀j,j<l.length→wrB l j=false)(hx:∀j (hj:j<l.length),l[j].2.length≤16384):Fj l=0:=by
 rw[Qq h,if_neg];intro q;obtain⟨x,q1,q2⟩:=Aji.1 q;obtain⟨j,hj,rfl⟩:=List.getElem_of_mem q1;have:=hx j hj;simp at q2;omega
def Ac4{l}{i:Nat}(hi:i<l.length):wrB l i=(decide (l[i].1.length<1)||decide (64<l[i].1.length)||(decide (0<i)&& decide (0≤Lib.compareBytes (l.getD (i - 1) ([],[])).1 l[i].1))):=by
 unfold wrB;simp only[Aee,Aed hi,Ahf]
def Vh(a0:Nat):A0:=⟨52,[(.tmp 2)],(sR (o1 2 (.mv z0) .done) (.seq (sR (om 7 0<|oL 8 7<|o1 9 (.mv z0) .done) (.block 0 (.loop (sR (ob 10 .lss 9 8 .done) (.seq (.cond 10 .skip (.exit 0)) (.seq (.block 1 (sR (om 11 9<|oI 12 2 7 9<|o1 13 (.ld (some 2) 12)<|o1 4 (.alo (.agg #[nV,nV]))<|om 3 11<|o0 (.st 2 4 13) .done) (.seq (.reg true (p1 14 (.fld 0 4)<|pl 15 14<|p1 16 (.len 15)<|p1 17 (.bin .lss 16 z1)<|pm 18 17 (.op true ⟨(some 19),(some (18,false)),(.fld 0 4)⟩ (.op true ⟨(some 20),(some (18,false)),(.ld none 19)⟩ (.op true ⟨(some 21),(some (18,false)),(.len 20)⟩ (.op true ⟨(some 22),(some (18,false)),(.bin .gtr 21 (kZ 64))⟩ (p1 23 (.pick 18 (.const (.bool true)) 22) (pm 24 23 (.op true ⟨(some 25),(some (24,false)),(.mv 3)⟩ (.op true ⟨(some 26),(some (24,false)),(.bin .gtr 25 z0)⟩ (.op true ⟨(some 27),(some (24,false)),(.mv 26)⟩ (.op true ⟨(some 28),(some (27,true)),(.mv 0)⟩ (.op true ⟨(some 29),(some (27,true)),(.mv 3)⟩ (.op true ⟨(some 30),(some (27,true)),(.bin .sub 29 z1)⟩ (.op true ⟨(some 31),(some (27,true)),(.idx 2 28 30)⟩ (.op true ⟨(some 32),(some (27,true)),(.fld 0 31)⟩ (.op true ⟨(some 33),(some (27,true)),(.ld none 32)⟩ (.op true ⟨(some 34),(some (27,true)),(.fld 0 4)⟩ (.op true ⟨(some 35),(some (27,true)),(.ld none 34)⟩ (oT 36 27 (.call a0 [33,35]) (.op true ⟨(some 37),(some (27,true)),(.bin .geq 36 z0)⟩ (.op true ⟨(some 38),(some (24,false)),(.pick 27 37 (.const (.bool false)))⟩ (p1 39 (.pick 24 (.const (.bool true)) 38) .done))))))))))))))))))))))) (.cond 39 (sR (o1 2 (.mv z2) .done) .ret) .skip)))) (rG (ob 40 .add 9 z1<|om 9 40 .done)))))))) (.seq (sR (om 41 0<|oL 42 41<|o1 43 (.mv z0) .done) (.block 2 (.loop (sR (ob 44 .lss 43 42 .done) (.seq (.cond 44 .skip (.exit 2)) (.seq (.block 3 (sR (oI 45 2 41 43<|o1 46 (.ld (some 2) 45)<|o1 6 (.alo (.agg #[nV,nV]))<|o0 (.st 2 6 46) .done) (sR (oj 47 1 6<|ol 48 47<|oL 49 48<|ob 50 .gtr 49 (kZ 16384) .done) (.cond 50 (sR (o1 2 (.mv (kZ 3)) .done) .ret) .skip)))) (rG (ob 51 .add 43 z1<|om 43 51 .done)))))))) (sR (o1 2 (.mv z0) .done) .ret))))⟩
set_option maxRecDepth 4000 in
def RG{P f f1}(hd:dec P f=some (Vh f1))(h1:F4 P f1):KN P f:=by
 intro d w l hw;have hwl:=hw.BF;obtain⟨a,c,rfl⟩:=hw.val;refine AG hd (Aea Z) ?_;show gwp P _ _ _ _ _;refine Ad<|Ab Z<|Aa<|Ag<|Ad<|Aj Z<|AI Z<|Ab Z<|Aa<|Ax<|B8 (α:=Nat) (fun x=>[(0,.slice a l.length c),(7,.slice a l.length c),(8,vZ l.length),(9,vZ x)]) (fun x d' L'=>d'=d∧x≤l.length∧∀j,j<x→wrB l j=false) (fun x=>l.length - x) 0 ⟨Z,Z,Z,Z,trivial⟩ ⟨Z,Aez _,fun j h=>absurd h (Ahc j)⟩ ?_;rintro i ρ d' L' ⟨rfl,hi,hf⟩;simp only at hi hf⊢;by_cases e:i<l.length
 ·have hwr:=Ac4 e;refine Ad<|AB Z Z<|Aa<|Ag<|Aw Z (by omega)<|Ak<|Ag<|Ax<|Ad<|Ab Z<|Bg (m:=i) Z hw Z Z e (fun b o cs hcl hdc ⟨k,v,q,hk,hv⟩=>?_);subst q;obtain⟨ka,kc,rfl⟩:=hk.val;obtain⟨va,vc,rfl⟩:=hv.val;have hkl:=hk.BF;have hnx:wrB l i=false→∀j,j<i+1→wrB l j=false:=fun q j hj=>if h:j<i then hf j h else by rw[show j=i by omega];exact q
  (refine PN Z (by assumption) Z<|BP (fun _ _=>Ab Z ?_));refine EV (cs:=[.slice ka l[i].1.length kc,.slice va l[i].2.length vc]) 0 Z Z Z Z Z Z ?_;by_cases c1:l[i].1.length<1
  ·rw[KQ e (by rw[hwr];simp[c1])];clear hwr hnx hf;(refine Aa<|Ag<|Bv<|Ai Z<|Ah Z (Al 0 Z Z)<|AI Z<|AB Z Z<|Ae Z<|A8 Z (by omega)<|An Z<|An Z<|An Z<|An Z<|Ay Z Z<|Ae Z<|An Z<|An Z<|An Z<|B1 Z<|B1 Z<|B1 Z<|B1 Z<|B1 Z<|B1 Z<|B1 Z<|B1 Z<|B1 Z<|B1 Z<|An Z<|Ay Z Z<|AZ<|Bc Z<|Ad<|Ab Z<|Aa<|Ap ?_);exact Dc [vZ 2] ⟨Aq Z,trivial⟩ (Afg _) ⟨Z,Z,Z⟩
  ·by_cases c2:l[i].1.length>64
   ·rw[KQ e (by rw[hwr];simp[c2])];clear hwr hnx hf;(refine Aa<|Ag<|Bv<|Ai Z<|Ah Z (Al 0 Z Z)<|AI Z<|AB Z Z<|Ae Z<|A3 Z (by omega)<|Af Z<|Ai Z<|Af Z<|Ah Z (Al 0 Z Z)<|Af Z<|AI Z<|Af Z<|Bx Z Z<|Au Z Z<|Ae Z<|A8 Z (by omega)<|An Z<|An Z<|An Z<|B1 Z<|B1 Z<|B1 Z<|B1 Z<|B1 Z<|B1 Z<|B1 Z<|B1 Z<|B1 Z<|B1 Z<|An Z<|Ay Z Z<|AZ<|Bc Z<|Ad<|Ab Z<|Aa<|Ap ?_);exact Dc [vZ 2] ⟨Aq Z,trivial⟩ (Afg _) ⟨Z,Z,Z⟩
   ·by_cases c3:i>0
    ·refine Aa<|Ag<|Bv<|Ai Z<|Ah Z (Al 0 Z Z)<|AI Z<|AB Z Z<|Ae Z<|A3 Z (by omega)<|Af Z<|Ai Z<|Af Z<|Ah Z (Al 0 Z Z)<|Af Z<|AI Z<|Af Z<|Bx Z Z<|Au Z Z<|Ae Z<|A3 Z (by omega)<|Af Z<|Ab Z<|Af Z<|Bx Z Z<|Af Z<|Ae Z<|A8 Z (by omega)<|Af Z<|Aj Z<|Af Z<|Ab Z<|Af Z<|CV Z Z (by omega) (by omega)<|Af Z<|Bg (m:=i - 1) Z hw Z (by omega) (by omega) (fun b2 o2 cs2 hcl2 hdc2 ⟨k2,v2,q2,hk2,hv2⟩=>?_);subst q2;obtain⟨k2a,k2c,rfl⟩:=hk2.val;obtain⟨v2a,v2c,rfl⟩:=hv2.val;have hg:l.getD (i - 1) ([],[])=l[i - 1]'(by omega):=by simp only[Aee,Aed (show i - 1<l.length by omega),Ahf]
     rw[hg] at hwr;refine Af Z<|Ai Z<|Af Z<|Ah Z (B2 (by assumption) Z)<|Af Z<|Ai Z<|Af Z<|Ah Z (Al 0 Z Z)<|Af Z<|BE Z (h1 hk2 hk) ?_;by_cases c4:Lib.compareBytes (l[i - 1]'(by omega)).1 l[i].1≥0
     ·rw[KQ e (by rw[hwr];simp[c3];exact .inr c4)];clear hwr hnx hf;(refine Af Z<|Da Z Z<|Af Z<|Ay Z Z<|Au Z Z<|AZ<|Aw Z (by omega)<|Ad<|Ab Z<|Aa<|Ap ?_);exact Dc [vZ 2] ⟨Aq Z,trivial⟩ (Afg _) ⟨Z,Z,Z⟩
     ·have hn:=hnx (by rw[hwr];simp[c1,c2,c3];omega);clear hwr hnx hf;(refine Af Z<|Da Z Z<|Af Z<|Ay Z Z<|Au Z Z<|AZ<|Ar Z (by omega)<|Ak<|AE<|AM Z Z (by omega) (by omega)<|Ab Z<|Aa ?_);exact⟨i+1,by omega,⟨Z,Z,Z,Z,trivial⟩,Z,by omega,hn⟩
    ·have hn:=hnx (by rw[hwr];simp[c1,c2,c3]<;>omega);clear hwr hnx hf;(refine Aa<|Ag<|Bv<|Ai Z<|Ah Z (Al 0 Z Z)<|AI Z<|AB Z Z<|Ae Z<|A3 Z (by omega)<|Af Z<|Ai Z<|Af Z<|Ah Z (Al 0 Z Z)<|Af Z<|AI Z<|Af Z<|Bx Z Z<|Au Z Z<|Ae Z<|A3 Z (by omega)<|Af Z<|Ab Z<|Af Z<|Bx Z Z<|Af Z<|Ae Z<|A3 Z (by omega)<|An Z<|An Z<|An Z<|An Z<|An Z<|An Z<|An Z<|An Z<|An Z<|An Z<|Af Z<|Au Z Z<|Au Z Z<|AZ<|AS Z<|Ak<|AE<|AM Z Z (by omega) (by omega)<|Ab Z<|Aa ?_);exact⟨i+1,by omega,⟨Z,Z,Z,Z,trivial⟩,Z,by omega,hn⟩
 ·have:i=l.length:=by omega
  subst this;refine Ad<|AB Z Z<|Aa<|Ag<|Ar Z (by omega)<|Bd<|Ag<|Ad<|Aj Z<|AI Z<|Ab Z<|Aa<|Ax<|B8 (α:=Nat) (fun x=>[(41,.slice a l.length c),(42,vZ l.length),(43,vZ x)]) (fun x d'' L'=>d''=d'∧x≤l.length∧∀j (hj:j<l.length),j<x→l[j].2.length≤16384) (fun x=>l.length - x) 0 ⟨Z,Z,Z,trivial⟩ ⟨Z,Aez _,fun j _ h=>absurd h (Ahc j)⟩ ?_;rintro i ρ d'' L'' ⟨rfl,hi,hf2⟩;simp only at hi hf2⊢;by_cases e:i<l.length
  ·refine Ad<|AB Z Z<|Aa<|Ag<|Aw Z (by omega)<|Ak<|Ag<|Ax<|Ad<|Bg (m:=i) Z hw Z Z e (fun b o cs hcl hdc ⟨k,v,q,hk,hv⟩=>?_);subst q;obtain⟨ka,kc,rfl⟩:=hk.val;obtain⟨va,vc,rfl⟩:=hv.val;have hvl:=hv.BF;(refine PN Z (by assumption) Z<|BP (fun _ _=>?_));refine EV (cs:=[.slice ka l[i].1.length kc,.slice va l[i].2.length vc]) 0 Z Z Z Z Z Z ?_;by_cases c1:l[i].2.length>16384
   ·rw[TE hf e c1];clear hf hf2;(refine Aa<|Ad<|Ai Z<|Ah Z (Al 0 Z Z)<|AI Z<|Bx Z Z<|Aa<|Aw Z (by omega)<|Ad<|Ab Z<|Aa<|Ap ?_);exact Dc [vZ 3] ⟨Aq Z,trivial⟩ (Afg _) ⟨Z,Z,Z⟩
   ·have hn:∀j (hj:j<l.length),j<i+1→l[j].2.length≤16384:=by
     intro j hj h;by_cases q:j<i
     ·exact hf2 j hj q
     ·obtain rfl:j=i:=by omega
      exact Nat.le_of_not_lt c1
    clear hf hf2;(refine Aa<|Ad<|Ai Z<|Ah Z (Al 0 Z Z)<|AI Z<|Bx Z Z<|Aa<|Ar Z (by omega)<|Ak<|AE<|AM Z Z (by omega) (by omega)<|Ab Z<|Aa ?_);exact⟨i+1,by omega,⟨Z,Z,Z,trivial⟩,Z,by omega,hn⟩
  ·rw[V3 hf (fun j hj=>hf2 j hj (by omega))];clear hf hf2;(refine Ad<|AB Z Z<|Aa<|Ag<|Ar Z (by omega)<|Bd<|Ad<|Ab Z<|Aa<|Ap ?_);exact Dc [vZ 0] ⟨Aq Z,trivial⟩ (Afg _) ⟨Z,Z,Z⟩
end Go.Gk.Tre
end
section
namespace Go.Gk.Tre
open Go Go.Gk Go.Gk.Dev Go.Gk.Cch Go.Gk.Pgr Go.Gk.Chn Go.Gk.Node
abbrev LD:=Int×List UInt8
def RLd(d:Ac)(cs:List Value)(x:LD):Prop:=∃u,cs=[vZ x.1,u]∧AJ d u x.2
def Acd:FZ RLd:=fun hl ⟨u,e,a⟩=>⟨u,e,RSl.mono (R:=AH) AL a hl⟩
def Aaz:FC RLd:=fun d cs x ⟨u,e,a⟩=>by
 subst e;obtain⟨u1,u2,rfl⟩:=RSl.val a;rfl
def Adl{P}{pan:List PanicEntry→AU}{Qn:Env→AU}{Ls L ρ d s}{t:Nat}{x u v}(ex:ev ρ x=.agg [u,v].toArray)(h:∀b T,gws P pan Qn s Ls (upd ρ t (.slice (some ⟨b,0,none⟩) 1 1)) d (bx b T [u,v]::L)):
  gws P pan Qn (.op false ⟨some t,none,.bsl 1 2 [vZ 0,nV] [(0,x)]⟩ s) Ls ρ d L:=by
 refine CZ (by omega) ?_ h
 simp[Instr.fill,Bq,Afb,List.range.loop,ex,Value.cells]
end Go.Gk.Tre
end
section
namespace Go.Gk.Tre
open Go Go.Gk Go.Gk.Dev Go.Gk.Cch Go.Gk.Pgr Go.Gk.Chn Go.Gk.Node
attribute [local irreducible] gwp gws xwp
def Sz(a0 a1 a2:Nat):A0:=⟨97,[(.tmp 4),(.tmp 5)],(sR (o1 4 (.mv nS)<|o1 5 (.mv z0) .done) (sR (o1 6 (.mv nS) .done) (sR (o1 15 (.bld [(0,1),(1,1),(2,1),(3,1)] [(.bool false),nV,nV,nV] [(0,(.const (.bool true)))])<|o1 7 (.alo (.agg #[(.bool false),nV,nV,nV]))<|o0 (.st 4 7 15) .done) (.seq (sR (o1 8 (.mv z0) .done) (.block 0 (.loop (.seq (sR (om 16 8<|om 17 1<|oL 18 17<|ob 19 .leq 16 18 .done) (.cond 19 .skip (.exit 0))) (.seq (.block 1 (sR (o1 22 (.ld (some 4) 7)<|o1 9 (.alo (.agg #[(.bool false),nV,nV,nV]))<|o0 (.st 4 9 22) .done) (.seq (sR (om 23 8<|om 24 1<|oL 25 24<|ob 26 .lss 23 25 .done) (.cond 26 (sR (om 28 0<|om 29 1<|om 30 8<|oI 31 2 29 30<|oj 32 1 31<|ol 33 32<|oc 34 a0 [28,33]<|om 27 34<|oe 35 27 0<|oe 36 27 1<|om 10 35<|om 11 36 .done) (.seq (sR (om 37 11<|ob 38 .neq 37 z0 .done) (.cond 38 (sR (om 39 11<|o1 4 (.mv nS)<|om 5 39 .done) .ret) .skip)) (.seq (.reg true (p1 40 (.fld 1 7)<|pl 41 40<|pm 42 1<|pm 43 8<|p1 44 (.idx 2 42 43)<|p1 45 (.fld 0 44)<|pl 46 45<|p1 49 (.fld 2 7)<|pl 50 49<|pm 51 10 (.par (o1 52 (.bsl 1 1 [nV] [(0,51)]) .done) (o1 47 (.bsl 1 1 [nV] [(0,46)]) (o1 48 (.app 1 24 [nV] 41 47) (p1 54 (.fld 1 9) .done))) (o1 53 (.app 1 24 [nV] 50 52) (.bar (o0 (.st 1 54 48) (p1 55 (.fld 2 9) (o0 (.st 1 55 53) .done)))))))) (sR (o1 56 (.ld (some 4) 9)<|oc 57 a1 [56] .done) (.cond 57 (sR (o1 58 (.ld (some 4) 9)<|o0 (.st 4 7 58) .done) (.exit 1)) .skip))))) .skip)) (.seq (.reg true (pm 60 0<|p1 61 (.ld (some 4) 7)<|p1 62 (.fld 1 7)<|pl 63 62<|p1 64 (.idx 1 63 z0)<|pl 65 64 (.par (o1 12 (.alo (.agg #[(vZ 0),nV])) .done) (oc 66 a2 [60,61,65] (pm 59 66 (p1 67 (.ext 59 0) (p1 68 (.ext 59 1) .done)))) (o0 (.st 2 12 67) (pm 13 68 .done))))) (.seq (sR (om 69 13<|ob 70 .neq 69 z0 .done) (.cond 70 (sR (om 71 13<|o1 4 (.mv nS)<|om 5 71 .done) .ret) .skip)) (sR (om 72 6<|o1 73 (.ld (some 2) 12)<|o1 74 (.bsl 1 2 [(vZ 0),nV] [(0,73)])<|o1 75 (.app 2 32 [(vZ 0),nV] 72 74)<|om 6 75 .done) (sR (oj 76 1 7<|ol 77 76<|oL 78 77<|om 14 78 .done) (sR (om 79 8<|om 80 1<|oL 81 80<|ob 82 .lss 79 81 .done) (.cond 82 (.reg true (p1 83 (.fld 1 9)<|pl 84 83<|pm 85 14<|p1 86 (.idx 1 84 85)<|pl 87 86<|p1 89 (.fld 2 9)<|pl 90 89<|pm 91 14<|p1 92 (.idx 1 90 91)<|pl 93 92 (.par (o1 94 (.bsl 1 1 [nV] [(0,93)]) .done) (o1 88 (.bsl 1 1 [nV] [(0,87)]) .done) (p1 95 (.bld [(0,1),(1,1),(2,1),(3,1)] [(.bool false),nV,nV,nV] [(0,(.const (.bool true))),(1,88),(2,94)]) (.bar (o0 (.st 4 7 95) .done)))))) .skip))))))))) (rG (om 20 8<|ob 21 .add 20 z1<|om 8 21 .done))))))) (sR (om 96 6<|om 4 96<|o1 5 (.mv z0) .done) .ret)))))⟩
end Go.Gk.Tre
end
