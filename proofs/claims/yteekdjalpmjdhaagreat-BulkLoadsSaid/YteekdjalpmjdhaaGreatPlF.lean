/-
  Our own texts, one behind the other: GkWE GkTrH GkWF GkWG GkTr9 GkTrL GkTrM GkTrN GkTY GkWH GkTrI GkTrJ GkTrO GkWI GkWJ GkX0 GkXK GkX1 GkX2 GkCv GkX3 GkX4 GkUB GkUC GkUD GkUE GkTZ GkUA GkUF GkWK GkWL GkUM GkXL.
-/
import Derived.Test.YteekdjalpmjdhaaGreatPlE
set_option linter.defProp false
set_option linter.unusedVariables false
set_option linter.unusedSimpArgs false
open Nat renaming le_of_ble_eq_true→Aca,le_refl→Acj,zero_le→Adf,succ_ne_zero→Aef,le_trans→Aeq,mul_one→Afd,mul_le_mul_left→Ahl
open Bool renaming false_eq_true→Ack,true_and→Afm
open List.Sublist renaming refl→Acd
open List renaming append_assoc→Ace,getElem?_eq_getElem→Acf,mem_append→Ach,length_append→Aci,eq_nil_of_length_eq_zero→Acl,mem_cons_self→Acm,perm_append_comm→Acn,mem_cons_of_mem→Aco,length_take→Acs,drop_eq_getElem_cons→Acu,mem_cons→Acw,length_cons→Acx,mem_append_right→Acy,mem_append_left→Ada,mem_singleton→Adh,sublist_append_right→Adi,map_append→Adl,append_nil→Adm,length_replicate→Adn,nil_append→Adr,perm_iff_count→Adw,mem_map_of_mem→Aea,count_append→Aeb,exists_cons_of_ne_nil→Aed,length_nil→Aei,count_cons→Aek,nodup_append→Ael,length_singleton→Afa,drop_length→Afb,getElem?_map→Afc,length_pos_iff→Afi,take_append_drop→Afj,nodup_cons→Afn,mem_map→Aft,getD→Aga,take_left→Agc,nodup_nil→Agd,drop_left→Agm,count_nil→Agn,take_succ_cons→Agu,filter_eq_nil_iff→Agv,filter_append→Agy
open List.Perm renaming cons→Acr,swap→Adb,refl→Adz
section
namespace Go.Gk.Tre
open Go Go.Gk Go.Gk.Dev Go.Gk.Cch Go.Gk.Pgr Go.Gk.Chn Go.Gk.Node
variable{s:PD}{key:List UInt8}
section
section
variable {α:Type}
def IK(l:List α){i:Nat}(h:i<l.length):∃a x b,l=a++[x]++b∧a.length=i:=⟨l.take i,l[i],l.drop (i+1),by simp,by simp;omega⟩
def EE{a b:List α}{x d:α}:(a++[x]++b).getD a.length d=x:=by simp[Aga]
def Gh{a b:List α}{x y:α}:(a++[x]++b).set a.length y=a++[y]++b:=by simp
def Ig{a b:List α}{x:α}:(a++[x]++b).eraseIdx a.length=a++b:=by simp[List.eraseIdx_append]
def MY{a b:List α}{y:α}:Fi (a++b) a.length y=a++[y]++b:=by simp[Fi]
def VE{a b:List α}{x y:α}:Fi (a++[x]++b) (a.length+1) y=a++[x,y]++b:=by
 have e:a.length+1=(a++[x]).length:=by simp
 unfold Fi;rw[e,Agc,Agm];simp
end
def Q8{t}(hG:Pgr.Good t){h:Nat}{k c:Int}{a b}{ca cb:List Int}{md:MdD}{l1 m' l2}{P1 Pm P2:List Int}
  (hat:At t k ⟨false,a++b,[],ca++[c]++cb⟩) (ea:ca.length=a.length) (hne:a++b≠[]) (hl:KL (Tr t (h+1)) a ca l1 P1) (hr:KR (Tr t (h+1)) b cb l2 P2) (ho:Out t h 1 md m' Pm)
  (ba:∀k∈a,∀x∈m',¬Lt x.1 k) (bb:∀k∈b,∀x∈m',Lt x.1 k) (hnd:(k::(P1++Pm++P2)).Nodup):
  ((DY t k ⟨false,a++b,[],ca++[c]++cb⟩ a.length md).2.2=0∧∃P',Mv t (DY t k ⟨false,a++b,[],ca++[c]++cb⟩ a.length md).1 (k::(P1++Pm++P2)) P' 2∧
   Out (DY t k ⟨false,a++b,[],ca++[c]++cb⟩ a.length md).1 (h+1) 1 (DY t k ⟨false,a++b,[],ca++[c]++cb⟩ a.length md).2.1 (l1++m'++l2) P')∨
  ((DY t k ⟨false,a++b,[],ca++[c]++cb⟩ a.length md).2.2=190∧t.free<2):=by
 have hs:=BF.1 hat.sound
 obtain⟨hko,hlen,hrng⟩:=hs
 have hsz:=hat.size
 rw[size_inner] at hsz
 have hd:decide (h+1=0)=false:=decide_eq_false (Aef _)
 have hkv:∀p∈P1++Pm++P2,A6 t p:=fun p hp=>by
  rcases Ach.1 hp with hp|hp
  ·rcases Ach.1 hp with hp|hp
   ·rcases hl with ⟨_,_,_,e⟩|⟨_,_,_,e,_⟩
    ·rw[e] at hp;cases hp
    ·exact Kd.all (fun c l P q=>Tr.live q) e p hp
   ·exact ho.live p hp
  ·rcases hr with ⟨_,_,_,e⟩|⟨_,_,_,e,_⟩
   ·rw[e] at hp;cases hp
   ·exact Kd.all (fun c l P q=>Tr.live q) e p hp
 have hkr:∀p,A6 t p→0≤p∧p≤8191:=fun p hp=>DD hG hp
 have e0:(ca++[c]++cb).getD a.length 0=c:=by rw[←ea];exact EE
 have hz1:1≤(a++b).length:=Fx.1 hne
 have hsz':Bc (⟨false,a++b,[],ca++[c]++cb⟩:Ax)≤256:=hat.size
 unfold DY
 simp only[e0]
 by_cases h1:c=md.page∧md.other<0
 ·rw[if_pos h1]
  obtain⟨h1,h2⟩:=h1
  subst h1
  refine .inl ⟨Z,k::(P1++Pm++P2),?_,.inl ⟨(by show(-1:Int)<0;decide),_,P1++Pm++P2,hat,Z,Z,hz1,?_⟩⟩
  ·have:=(Mv.refl hG).frame (R:=k::(P1++Pm++P2)) (fun p hp=>(Acw.1 hp).elim (fun e=>e▸hat.liv) (hkv p)) hnd (fun p _ q=>by cases q)
   exact this.mono (by omega)
  ·rw[hd]
   refine .mki Z ?_
   have:=Kd.IN (km:=[]) (cm:=[md.page]) hl (Kd.one.2 (ho.tr h2 (Acj _))) hr (by simpa using hko) ba bb
   simpa using this
 ·rw[if_neg h1]
  by_cases h2:0≤md.other
  ·rw[if_pos h2]
   rcases ho with ⟨q,_⟩|⟨_,_,m1,m2,Q1,Q2,rfl,rfl,g1,g2,g3,g4,g5,g6⟩
   ·omega
   ·have e1:Fi (a++b) a.length md.key=a++[md.key]++b:=MY
    have e2:Fi ((ca++[c]++cb).set a.length md.page) (a.length+1) md.other=ca++[md.page,md.other]++cb:=by rw[←ea,Gh,VE]
    simp only[e1,e2]
    obtain⟨x1,r1,f1⟩:=Aed g1.ne
    obtain⟨x2,r2,f2⟩:=Aed g2.ne
    obtain⟨ko1,ko2,ko3⟩:=KO.app.1 hko
    have ha':∀k∈a,Lt k md.key:=fun p hp=>I5 (ba p hp x1 (by simp[f1])) (g3 x1 (by simp[f1]))
    have hb':∀k∈b,Lt md.key k:=fun p hp=>I5 (g4 x2 (by simp[f2])) (bb p hp x2 (by simp[f2]))
    have hko':KO (a++[md.key]++b):=by
     rw[Ace];refine KO.app.2 ⟨ko1,KO.cons.2 ⟨⟨g5,g6⟩,ko2,hb'⟩,fun x hx y hy=>?_⟩;rcases Acw.1 hy with rfl|hy
     ·exact ha' x hx
     ·exact ko3 x hx y hy
    obtain⟨n1,n1Q,n1a,_,n1e,_⟩:=id g1
    obtain⟨n2,n2Q,n2a,_,n2e,_⟩:=id g2
    have hso:AX ⟨false,a++[md.key]++b,[],ca++[md.page,md.other]++cb⟩=true:=by
     refine BF.2 ⟨hko',?_,fun p hp=>?_⟩
     ·simp only[Aci,Acx,Aei] at hlen⊢;omega
     ·rcases Ach.1 hp with hp|hp
      ·rcases Ach.1 hp with hp|hp
       ·exact hrng p (by simp[hp])
       ·rcases Acw.1 hp with rfl|hp
        ·exact hkr _ n1a.liv
        ·rw[Adh.1 hp];exact hkr _ n2a.liv
      ·exact hrng p (by simp[hp])
    refine F4 hG (h:=h+1) (z:=1) ?_ hso ?_ hat.liv ?_ hnd
    ·rw[hd]
     exact .mki Z (Kd.IN (km:=[md.key]) (cm:=[md.page,md.other]) hl (Kd.cons.2 ⟨m1,m2,Q1,Q2,Z,Z,g1,g3,g4,Kd.one.2 g2⟩) hr hko' ba bb)
    ·simp only[Ack,if_false]
     rw[size_inner]
     simp only[Aci,Acx,Aei,Dd,Cf] at hsz⊢
     omega
    ·simp;omega
  ·rw[if_neg h2]
   have e2:(ca++[c]++cb).set a.length md.page=ca++[md.page]++cb:=by rw[←ea,Gh]
   simp only[e2]
   have htr:=ho.tr (by omega) (Acj _)
   obtain⟨n1,n1Q,n1a,_,n1e,_⟩:=id htr
   have hso:AX ⟨false,a++b,[],ca++[md.page]++cb⟩=true:=by
    refine BF.2 ⟨hko,?_,fun p hp=>?_⟩
    ·simp only[Aci,Acx,Aei] at hlen⊢;omega
    ·rcases Ach.1 hp with hp|hp
     ·rcases Ach.1 hp with hp|hp
      ·exact hrng p (by simp[hp])
      ·rw[Adh.1 hp];exact hkr _ n1a.liv
     ·exact hrng p (by simp[hp])
   refine F4 hG (h:=h+1) (z:=1) ?_ hso ?_ hat.liv hz1 hnd
   ·rw[hd]
    refine .mki Z ?_
    have:=Kd.IN (km:=[]) (cm:=[md.page]) hl (Kd.one.2 htr) hr (by simpa using hko) ba bb
    simpa using this
   ·simp only[Ack,if_false]
    rw[size_inner]
    simp only[Aci,Acx,Aei] at hsz⊢
    omega
def KL.live{h:Nat}{ks}{cs:List Int}{l}{Q:List Int}(hl:KL (Tr s h) ks cs l Q):∀p∈Q,A6 s p:=by
 rcases hl with ⟨_,_,_,e⟩|⟨_,_,_,e,_⟩
 ·rw[e];exact fun p hp=>by cases hp
 ·exact Kd.all (fun c l P q=>Tr.live q) e
def KR.live{h:Nat}{ks}{cs:List Int}{l}{Q:List Int}(hl:KR (Tr s h) ks cs l Q):∀p∈Q,A6 s p:=by
 rcases hl with ⟨_,_,_,e⟩|⟨_,_,_,e,_⟩
 ·rw[e];exact fun p hp=>by cases hp
 ·exact Kd.all (fun c l P q=>Tr.live q) e
def O7{a b vs l}{Q:List Int}(h:Lf s (a++key::b) vs l Q):
  ∃va c vb l1 v0 l2 P1 Pv P2,vs=va++[c]++vb∧va.length=a.length∧l=l1++[(key,v0)]++l2∧Q=P1++Pv++P2∧Lf s a va l1 P1∧Ce s c v0 Pv∧Lf s b vb l2 P2:=by
 have hl:=h.len.1
 obtain⟨va,c,vb,rfl,e⟩:=IK vs (i:=a.length) (by rw[hl];simp)
 rw[Ace] at h
 obtain⟨l1,l',P1,P',rfl,rfl,h1,h2⟩:=h.split e
 obtain⟨l0,l2,Pv,P2,rfl,rfl,h3,h4⟩:=Lf.split (ks:=[key]) (vs:=[c]) h2 Z
 obtain⟨v0,rfl,h5⟩:=h3.AaI
 exact⟨va,c,vb,l1,v0,l2,P1,Pv,P2,Z,e,by simp,by simp,h1,h5,h4⟩
def OF{a b vs l}{Q:List Int}(h:Lf s (a++b) vs l Q):
  ∃va vb l1 l2 P1 P2,vs=va++vb∧va.length=a.length∧l=l1++l2∧Q=P1++P2∧Lf s a va l1 P1∧Lf s b vb l2 P2:=by
 have hl:=h.len.1
 have e:vs=vs.take a.length++vs.drop a.length:=(Afj _ _).symm
 have e2:(vs.take a.length).length=a.length:=by simp at hl⊢;omega
 rw[e] at h
 obtain⟨l1,l2,P1,P2,rfl,rfl,h1,h2⟩:=h.split e2
 exact⟨_,_,l1,l2,P1,P2,e,e2,Z,Z,h1,h2⟩
def I2{a va l1}{P1:List Int}(h:Lf s a va l1 P1)(ha:∀x∈a,Lt x key):∀x∈l1,Lt x.1 key:=fun x hx=>ha _ (by rw[h.keys];exact Aea hx)
def IX{a va l1}{P1:List Int}(h:Lf s a va l1 P1)(ha:∀x∈a,Lt key x):∀x∈l1,Lt key x.1:=fun x hx=>ha _ (by rw[h.keys];exact Aea hx)
def Wn{cell v}(hk:1≤key.length∧key.length≤64):∀(h:Nat) {s}{k:Int}{l}{P Pc:List Int},Pgr.Good s→Tr s (h+1) k l P→(P++Pc).Nodup→Ce s cell v Pc→
  ((Dq s k key cell (h+1)).2.2.2=0∧(Dq s k key cell (h+1)).2.2.1= !isK l key∧∃P',Mv s (Dq s k key cell (h+1)).1 (P++Pc) P' (2*(h+1))∧Out (Dq s k key cell (h+1)).1 h 1 (Dq s k key cell (h+1)).2.1 (Ea l key v) P')∨
  ((Dq s k key cell (h+1)).2.2.2=190∧s.free<2*(h+1))
 |0,s,k,l,P,Pc,hG,⟨n,Q,hat,hne,eP,hn⟩,hnd,hc=>by
  subst eP;rw[decide_eq_true Z] at hn;obtain⟨n1,n2⟩:=hn.leaf;have ef:=C0 hat.sound n1;obtain⟨ks,vs,rfl⟩:∃ks vs,n=⟨true,ks,vs,[]⟩:=⟨_,_,ef⟩
  simp only at n2 hne;obtain⟨hko,hvl,hv16⟩:=B6.1 hat.sound;have hlv:=hat.level (x:=((0+1:Nat):Int)) Z;have hlz:(AN s k ((0+1:Nat):Int)).2=0:=by rw[hlv]
  have hln:(AN s k ((0+1:Nat):Int)).1=⟨true,ks,vs,[]⟩:=by rw[hlv]
  have hsz:=hat.size;rw[size_leaf hvl] at hsz;have hcl:=hc.len;have hQl:=n2.live;have hPl:=hc.live;rcases Io hko (vs:=vs) key with ⟨a,b,rfl,hf,ha,hb⟩|⟨a,b,rfl,hf,ha,hb⟩
  ·rw[ZK hlz hln hf];obtain⟨va,c,vb,l1,v0,l2,P1,Pv,P2,rfl,ev,rfl,rfl,g1,g2,g3⟩:=O7 n2;have e0:(va++[c]++vb).getD a.length []=c:=by rw[←ev];exact EE
   have e1:(va++[c]++vb).set a.length cell=va++[cell]++vb:=by rw[←ev];exact Gh
   simp only[e0,e1];have hnd':(k::(P1++Pc++P2)).Nodup∧Pv.Nodup∧∀p∈k::(P1++Pc++P2),p∉Pv:=by
    have hp:(k::(P1++Pv++P2)++Pc).Perm ((k::(P1++Pc++P2))++Pv):=Adw.2 fun a=>by
     simp only[Aeb,Aek];omega
    obtain⟨q1,q2,q3⟩:=Ael.1 (hp.nodup_iff.1 hnd);exact⟨q1,q2,fun p h1 h2=>q3 p h1 p h2 Z⟩
   obtain⟨q1,q2,q3⟩:=hnd';obtain⟨d1,d2⟩:=g2.Aa4 hG q2;rw[if_neg (by rw[d1];decide)];have hR:∀p∈k::(P1++Pc++P2),A6 s p:=fun p hp=>by
    rcases Acw.1 hp with rfl|hp
    ·exact hat.liv
    ·rcases Ach.1 hp with hp|hp
     ·rcases Ach.1 hp with hp|hp
      ·exact hQl p (by simp[hp])
      ·exact hPl p hp
     ·exact hQl p (by simp[hp])
   have hsm:=d2.same hR q3;have hl1:=I2 g1 ha;have hl2:=IX g3 hb;have hput:Ea (l1++[(key,v0)]++l2) key v=l1++[(key,v)]++l2:=by rw[ME hl1 hl2,Xg]
   have hisk:isK (l1++[(key,v0)]++l2) key=true:=by rw[Em hl1 hl2,HA]
   have hLf:Lf (Cs s c).1 (a++key::b) (va++[cell]++vb) (l1++[(key,v)]++l2) (P1++Pc++P2):=by
    have w1:=g1.stay (t:=(Cs s c).1) (fun p hp=>hsm p (by simp[hp]));have w2:=hc.stay (t:=(Cs s c).1) (fun p hp=>hsm p (by simp[hp]));have w3:=g3.stay (t:=(Cs s c).1) (fun p hp=>hsm p (by simp[hp]));have:=w1.join ((Lf.one (k:=key) w2).join w3);simpa using this
   have hso:AX ⟨true,a++key::b,va++[cell]++vb,[]⟩=true:=by
    refine B6.2 ⟨hko,by simp at hvl⊢;omega,fun x hx=>?_⟩;rcases Ach.1 hx with hx|hx
    ·rcases Ach.1 hx with hx|hx
     ·exact hv16 x (by simp[hx])
     ·rw[Adh.1 hx];exact hcl
    ·exact hv16 x (by simp[hx])
   have hnd2:Nd (Cs s c).1 (Tr (Cs s c).1 0) (decide (0=0)) ⟨true,a++key::b,va++[cell]++vb,[]⟩ (l1++[(key,v)]++l2) (P1++Pc++P2):=by
    rw[decide_eq_true Z];exact .mkl Z hLf
   have hzz:Bc (⟨true,a++key::b,va++[cell]++vb,[]⟩:Ax)≤340:=by
    rw[size_leaf (by simp at hvl⊢;omega)];simp only[Aci,Acx,Dd,Cf] at hsz⊢;omega
   rcases F4 d2.gd (h:=0) (z:=1) hnd2 hso hzz (by unfold A6;rw[(hsm k (by simp)).1];exact hat.liv) (by simp;omega) q1 with ⟨w1,P',w2,w3⟩|⟨w1,w2⟩
   ·refine .inl ⟨w1,by rw[hisk];rfl,P',?_,by rw[hput];exact w3⟩;refine((d2.then w2 (Adz _) hR q1 q3).perm ?_ (Adz _)).mono (by omega);refine Adw.2 fun a=>?_;simp only[Aeb,Aek];omega
   ·exact .inr ⟨w1,by have:=d2.fr;omega⟩
  ·rw[Zq hlz hln hf];obtain⟨va,vb,l1,l2,P1,P2,rfl,ev,rfl,rfl,g1,g3⟩:=OF n2;have e0:Fi (a++b) a.length key=a++[key]++b:=MY;have e1:Fi (va++vb) a.length cell=va++[cell]++vb:=by rw[←ev];exact MY
   simp only[e0,e1];have hl1:=I2 g1 ha;have hl2:=IX g3 hb;have hput:Ea (l1++l2) key v=l1++[(key,v)]++l2:=by
    have:=ME (m:=[]) (v:=v) hl1 hl2;rw[Yy,Adm] at this;exact this
   have hisk:isK (l1++l2) key=false:=by
    have:=Em (m:=[]) hl1 hl2;rw[O2,Adm] at this;exact this
   have hLf:Lf s (a++[key]++b) (va++[cell]++vb) (l1++[(key,v)]++l2) (P1++Pc++P2):=by
    have:=g1.join ((Lf.one (k:=key) hc).join g3);simpa using this
   have hko':KO (a++[key]++b):=by
    obtain⟨k1,k2,k3⟩:=KO.app.1 hko;rw[Ace];refine KO.app.2 ⟨k1,KO.cons.2 ⟨hk,k2,hb⟩,fun x hx y hy=>?_⟩;rcases Acw.1 hy with rfl|hy
    ·exact ha x hx
    ·exact k3 x hx y hy
   have hso:AX ⟨true,a++[key]++b,va++[cell]++vb,[]⟩=true:=by
    refine B6.2 ⟨hko',by simp at hvl⊢;omega,fun x hx=>?_⟩;rcases Ach.1 hx with hx|hx
    ·rcases Ach.1 hx with hx|hx
     ·exact hv16 x (by simp[hx])
     ·rw[Adh.1 hx];exact hcl
    ·exact hv16 x (by simp[hx])
   have hnd2:Nd s (Tr s 0) (decide (0=0)) ⟨true,a++[key]++b,va++[cell]++vb,[]⟩ (l1++[(key,v)]++l2) (P1++Pc++P2):=by
    rw[decide_eq_true Z];exact .mkl Z hLf
   have hzz:Bc (⟨true,a++[key]++b,va++[cell]++vb,[]⟩:Ax)≤340:=by
    rw[size_leaf (by simp at hvl⊢;omega)];simp only[Aci,Acx,Aei,Dd,Cf] at hsz⊢;omega
   have hp:(k::(P1++P2)++Pc).Perm (k::(P1++Pc++P2)):=Adw.2 fun a=>by
     simp only[Aeb,Aek];omega
   rcases F4 hG (h:=0) (z:=1) hnd2 hso hzz hat.liv (by simp;omega) (hp.nodup_iff.1 hnd) with ⟨w1,P',w2,w3⟩|⟨w1,w2⟩
   ·exact .inl ⟨w1,by rw[hisk];rfl,P',(w2.perm hp (Adz _)).mono (by omega),by rw[hput];exact w3⟩
   ·exact .inr ⟨w1,by omega⟩
 |h+1,s,k,l,P,Pc,hG,⟨n,Q,hat,hne,eP,hn⟩,hnd,hc=>by
  subst eP;rw[decide_eq_false (Aef _)] at hn;obtain⟨n1,n2⟩:=hn.inner;have ef:=DI hat.sound n1;obtain⟨ks,cs,rfl⟩:∃ks cs,n=⟨false,ks,[],cs⟩:=⟨_,_,ef⟩
  simp only at n2 hne;obtain⟨hko,hcl,hrng⟩:=BF.1 hat.sound;have hlv:=hat.level (x:=((h+1+1:Nat):Int)) (by show false=_;exact(decide_eq_false (by omega)).symm);have hlz:(AN s k ((h+1+1:Nat):Int)).2=0:=by rw[hlv]
  have hln:(AN s k ((h+1+1:Nat):Int)).1=⟨false,ks,[],cs⟩:=by rw[hlv]
  obtain⟨a,b,rfl,hf,ha,hb⟩:=Hl hat.sound key;rw[UL hlz hln hf];obtain⟨ca,c,cb,rfl,ec⟩:=IK cs (i:=a.length) (by rw[hcl];simp;omega);have e0:(ca++[c]++cb).getD a.length 0=c:=by rw[←ec];exact EE
  simp only[e0];have n2':Kd (Tr s (h+1)) (a++[]++b) (ca++[c]++cb) l Q:=by simpa using n2
  obtain⟨l1,m,l2,P1,Pm,P2,rfl,rfl,g1,g2,g3,g4,g5⟩:=n2'.focus (by simpa using hko) ec Z;have hl1:∀x∈l1,Lt x.1 key:=fun x hx=>by
   obtain⟨p,p1,p2⟩:=g1.below x hx;exact G6 p2 (ha p p1)
  have hl2:∀x∈l2,Lt key x.1:=fun x hx=>by
   obtain⟨p,p1,p2⟩:=g3.Qe x hx;exact G6 (hb p p1) p2
  have hp:(k::(P1++Pm++P2)++Pc).Perm ((Pm++Pc)++(k::(P1++P2))):=Adw.2 fun a=>by
     simp only[Aeb,Aek];omega
  obtain⟨q1,q2,q3⟩:=Ael.1 (hp.nodup_iff.1 hnd);have q3':∀p∈k::(P1++P2),p∉Pm++Pc:=fun p h1 h2=>q3 p h2 p h1 Z;have hR:∀p∈k::(P1++P2),A6 s p:=fun p hp=>by
   rcases Acw.1 hp with rfl|hp
   ·exact hat.liv
   ·exact(Ach.1 hp).elim (g1.live p) (g3.live p)
  rcases Wn hk h hG g2 q1 hc with ⟨w1,w2,P',w3,w4⟩|⟨w1,w2⟩
  ·rw[if_neg (by rw[w1];decide)];generalize Dq s c key cell (h+1)=u at w1 w2 w3 w4⊢;have hsm:=w3.same hR q3';have hput:Ea (l1++m++l2) key v=l1++Ea m key v++l2:=ME hl1 hl2;have hisk:isK (l1++m++l2) key=isK m key:=Em hl1 hl2;have w5:=w3.frame hR q2 q3';have hp2:(P'++(k::(P1++P2))).Perm (k::(P1++P'++P2)):=Adw.2 fun a=>by
     simp only[Aeb,Aek];omega
   have hat':=hat.stay (hsm k (Acm ..));rcases Q8 w3.gd hat' ec hne (g1.stay (fun p hp=>hsm p (by simp[hp]))) (g3.stay (fun p hp=>hsm p (by simp[hp]))) w4
    (fun p hp x hx=>by
     rcases Nn hx with rfl|hx
     ·exact ha p hp
     ·exact g4 p hp x hx) (fun p hp x hx=>by
     rcases Nn hx with rfl|hx
     ·exact hb p hp
     ·exact g5 p hp x hx) (hp2.nodup_iff.1 w5.nd) with ⟨y1,P2',y2,y3⟩|⟨y1,y2⟩
   ·refine .inl ⟨y1,by rw[w2,hisk],P2',?_,by rw[hput];exact y3⟩;exact((w5.trans (y2.perm hp2 (Adz _))).perm hp (Adz _)).mono (by omega)
   ·exact .inr ⟨y1,by have:=w3.fr;omega⟩
  ·rw[if_pos (by rw[w1];decide)];exact .inr ⟨w1,by omega⟩
end
end Go.Gk.Tre
end
section
namespace Go.Gk
def Wv{b:Nat}{T T' l l'}(h:bx b T l=bx b T' l'):T=T'∧l=l':=by
 have h1:bx b T l b (Obj.cells l.toArray T (0,0)):=B2 _ _;rw[h] at h1;have h2:=(GV h1).2;simp only[Obj.cells.injEq] at h2;exact⟨h2.2.1,by simpa using h2.1⟩
def An.all{α:Type}{R:Ab→List Value→α→Prop}(hR:Gs R){d:Ab}{v:Value}{xs:List α}{h:Ab}(o:An 1 R d v xs h)(hx:0<xs.length):
  ∃b T l c,v=.slice (some ⟨b,0,none⟩) xs.length c∧h=bx b T l∧xs.length≤l.length∧(∀j (hj:j<xs.length),∃u,l[j*1+0]?=some u∧R d [u] xs[j])∧
   ∀d' j u x,Le d d'→j<xs.length→R d' [u] x→An 1 R d' v (xs.set j x) (bx b T (patch l (j*1) [u])):=by
 obtain⟨b,T,l,c,cs,e1,e2, -, -, -, -, -⟩:=An.at (by omega) o hx
 subst e1;subst e2
 have key:∀j (hj:j<xs.length),j*1+1≤l.length∧(∃u,l[j*1+0]?=some u∧R d [u] xs[j]):=by
  intro j hj;obtain⟨b',T',l',c',cs',q1,q2,q3,q4,q5,q6,q7⟩:=An.at (by omega) o hj;cases q1;obtain⟨rfl,rfl⟩:=Wv q2;refine⟨q5,?_⟩
  match cs',q3 with
  |[u],_=>exact⟨u,q4 0 u Z,q6⟩
 refine⟨b,T,l,c,Z,Z,?_,fun j hj=>(key j hj).2,fun d' j u x hl hj hu=>?_⟩
 rotate_left
 ·obtain⟨b',T',l',c',cs',q1,q2,q3,q4,q5,q6,q7⟩:=An.at (by omega) (An.mono (R:=R) hR o hl) hj
  cases q1
  obtain⟨rfl,rfl⟩:=Wv q2
  exact q7 [u] x Z hu
 have:=(key (xs.length - 1) (by omega)).1
 omega
end Go.Gk
namespace Go.Gk.Tre
open Go Go.Gk Go.Gk.Dev Go.Gk.Cch Go.Gk.Pgr Go.Gk.Chn Go.Gk.Node
def XB{s}{k:Int}{n:Ax}{i0 i:Nat}{a b:Ax×Int}(hk:n.keys.length≠0)(hi:i=if i0=n.keys.length then i0 - 1 else i0)(ha:Bw s (n.kids.getD i 0)=a)(hb:Bw s (n.kids.getD (i+1) 0)=b):
  FD s k n i0=if a.2≠0 then(s,C9,a.2) else if b.2≠0 then(s,C9,b.2) else if a.1.leaf≠b.1.leaf then(s,C9,200) else
   let w:=BG s (n.kids.getD i 0) (DN a.1 b.1 (n.keys.getD i []))
   if w.2.2≠0 then(w.1,C9,w.2.2) else
   let u:=w.1.drop (n.kids.getD (i+1) 0)
   if u.2≠0 then(u.1,C9,u.2) else
   if 0≤w.2.1.other then BG u.1 k {n with keys:=n.keys.set i w.2.1.key,kids:=(n.kids.set i w.2.1.page).set (i+1) w.2.1.other}
   else BG u.1 k {n with keys:=n.keys.eraseIdx i,kids:=(n.kids.set i w.2.1.page).eraseIdx (i+1)}:=by
 subst hi;subst ha;subst hb
 unfold FD
 exact if_neg hk
end Go.Gk.Tre
end
section
namespace Go.Gk.Tre
open Go Go.Gk Go.Gk.Dev Go.Gk.Cch Go.Gk.Pgr Go.Gk.Chn Go.Gk.Node
variable{s t:PD}
section
def Ei.trans{u}{P:List Int}(h:Ei s t P)(k:Ei t u P):Ei s u P:=fun p hp=>⟨(k p hp).1.trans (h p hp).1,(k p hp).2.trans (h p hp).2⟩
def Ei.sub{P Q:List Int}(h:Ei s t P)(hs:∀p∈Q,p∈P):Ei s t Q:=fun p hp=>h p (hs p hp)
def Zf{n:Ax}(hs:AX n=true)(hz:5≤Bc n):n.keys≠[]:=by
 intro e;cases hl:n.leaf with
 |true=>
  have ef:=C0 hs hl
  rw[ef] at hs
  have h2:=(B6.1 hs).2.1
  have:=(congrArg Bc ef).trans (size_leaf h2)
  rw[e] at this h2
  rw[Acl h2] at this
  simp only[Cf,Aei] at this;omega
 |false=>
  have ef:=DI hs hl
  rw[ef] at hs
  have h2:=(BF.1 hs).2.1
  have:=(congrArg Bc ef).trans size_inner
  rw[h2,e] at this
  simp only[Cf,Aei] at this;omega
section
variable {α:Type}
def Vn{a b:List α}{x y d:α}:(a++[x,y]++b).getD (a.length+1) d=y:=by
 rw[show a++[x,y]++b=(a++[x])++[y]++b by simp,show a.length+1=(a++[x]).length by simp];exact EE
def Wk{a b:List α}{x y d:α}:(a++[x,y]++b).getD a.length d=x:=by
 rw[show a++[x,y]++b=a++[x]++(y::b) by simp];exact EE
def XQ{a b:List α}{x y u w:α}:((a++[x,y]++b).set a.length u).set (a.length+1) w=a++[u,w]++b:=by
 rw[show a++[x,y]++b=a++[x]++(y::b) by simp,Gh,show a++[u]++y::b=(a++[u])++[y]++b by simp,show a.length+1=(a++[u]).length by simp,Gh];simp
def Uo{a b:List α}{x y u:α}:((a++[x,y]++b).set a.length u).eraseIdx (a.length+1)=a++[u]++b:=by
 rw[show a++[x,y]++b=a++[x]++(y::b) by simp,Gh,show a++[u]++y::b=(a++[u])++[y]++b by simp,show a.length+1=(a++[u]).length by simp,Ig]
end
def TJ(hG:Pgr.Good t){h i0:Nat}{k c1 c2:Int}{a b kk}{ca cb:List Int}{n1 n2:Ax}{l1 m1 m2 l2}{P1 Q1 Q2 P2:List Int}
  (hk:A6 t k) (ea:ca.length=a.length) (eb:cb.length=b.length) (hko:KO (a++[kk]++b)) (hrng:∀c∈ca++cb,0≤c∧c≤8191) (hsz:Bc (⟨false,a++[kk]++b,[],ca++[c1,c2]++cb⟩:Ax)≤256)
  (hi:a.length=if i0=(a++[kk]++b).length then i0 - 1 else i0)
  (hl:KL (Tr t (h+1)) a ca l1 P1) (hr:KR (Tr t (h+1)) b cb l2 P2) (a1:At t c1 n1) (d1:Nd t (Tr t h) (decide (h=0)) n1 m1 Q1) (a2:At t c2 n2) (d2:Nd t (Tr t h) (decide (h=0)) n2 m2 Q2)
  (hz:Bc n1+Bc n2≤335) (hne:n1.keys≠[]∨n2.keys≠[]) (b1:∀x∈m1,Lt x.1 kk) (b2:∀x∈m2,¬Lt x.1 kk) (ba:∀k∈a,∀x∈m1++m2,¬Lt x.1 k) (bb:∀k∈b,∀x∈m1++m2,Lt x.1 k)
  (hnd:(k::(P1++(c1::Q1++c2::Q2)++P2)).Nodup):
  ((FD t k ⟨false,a++[kk]++b,[],ca++[c1,c2]++cb⟩ i0).2.2=0∧∃P',Mv t (FD t k ⟨false,a++[kk]++b,[],ca++[c1,c2]++cb⟩ i0).1 (k::(P1++(c1::Q1++c2::Q2)++P2)) P' 4∧
   Out (FD t k ⟨false,a++[kk]++b,[],ca++[c1,c2]++cb⟩ i0).1 (h+1) 0 (FD t k ⟨false,a++[kk]++b,[],ca++[c1,c2]++cb⟩ i0).2.1 (l1++(m1++m2)++l2) P')∨
  ((FD t k ⟨false,a++[kk]++b,[],ca++[c1,c2]++cb⟩ i0).2.2=190∧t.free<4):=by
 obtain⟨ko1,ko2,ko3⟩:=KO.app.1 hko
 obtain⟨ko4,ko5,ko6⟩:=KO.app.1 ko1
 have hkk:=ko5.1 kk (by simp)
 have e1:(ca++[c1,c2]++cb).getD a.length 0=c1:=by rw[←ea];exact Wk
 have e2:(ca++[c1,c2]++cb).getD (a.length+1) 0=c2:=by rw[←ea];exact Vn
 have e3:(a++[kk]++b).getD a.length []=kk:=EE
 have hm:=XB (s:=t) (k:=k) (n:=⟨false,a++[kk]++b,[],ca++[c1,c2]++cb⟩) (i0:=i0) (i:=a.length) (a:=(n1,0)) (b:=(n2,0)) (by simp) hi (by rw[show(⟨false,a++[kk]++b,[],ca++[c1,c2]++cb⟩:Ax).kids.getD a.length 0=c1 from e1];exact a1.read)
  (by rw[show(⟨false,a++[kk]++b,[],ca++[c1,c2]++cb⟩:Ax).kids.getD (a.length+1) 0=c2 from e2];exact a2.read)
 rw[hm,if_neg (fun q=>q Z),if_neg (fun q=>q Z),if_neg (fun q=>q (d1.1.trans d2.1.symm))]
 clear hm
 simp only[e1,e2,e3]
 obtain⟨dj,sj,zj,lj,ej⟩:=d1.join (fun c l P q=>Tr.ne q) d2 a1.sound a2.sound b1 b2 hkk
 have hp0:(k::(P1++(c1::Q1++c2::Q2)++P2)).Perm ((c1::(Q1++Q2))++([c2]++(k::(P1++P2)))):=Adw.2 fun a=>by
  simp only[Aeb,Aek,Agn];omega
 obtain⟨q1,q2,q3⟩:=Ael.1 (hp0.nodup_iff.1 hnd)
 have q3':∀p∈[c2]++(k::(P1++P2)),p∉c1::(Q1++Q2):=fun p h1 h2=>q3 p h2 p h1 Z
 have hR:∀p∈[c2]++(k::(P1++P2)),A6 t p:=fun p hp=>by
  rcases Ach.1 hp with hp|hp
  ·rw[Adh.1 hp];exact a2.liv
  ·rcases Acw.1 hp with rfl|hp
   ·exact hk
   ·exact(Ach.1 hp).elim (hl.live p) (hr.live p)
 have hzj:Bc (DN n1 n2 kk)≤if (DN n1 n2 kk).leaf=true then 340 else 440:=by
  rw[lj];cases hb:decide (h=0) with
  |true=>rw[hb] at zj;simp only[if_true] at zj⊢;omega
  |false=>rw[hb] at zj;simp only[Ack,if_false] at zj⊢;omega
 have hkj:1≤(DN n1 n2 kk).keys.length:=Fx.1 fun e=>by
  obtain⟨-,f1,f2⟩:=ej e;exact hne.elim (fun q=>q f1) (fun q=>q f2)
 have hs0:=F4 hG (h:=h) (z:=1) dj sj hzj a1.liv hkj q1
 generalize BG t c1 (DN n1 n2 kk)=w at hs0⊢
 rcases hs0.symm with ⟨w1,w2⟩|⟨w1,Pj,w2,w3⟩
 ·rw[if_pos (by rw[w1];decide)]
  exact .inr ⟨w1,by omega⟩
 rw[if_neg (by rw[w1];decide)]
 have hsm1:=w2.same hR q3'
 have w4:=w2.frame hR q2 q3'
 have hp1:(Pj++([c2]++(k::(P1++P2)))).Perm ([c2]++(Pj++(k::(P1++P2)))):=Adw.2 fun a=>by
  simp only[Aeb,Aek,Agn];omega
 obtain⟨r1,r2,r3⟩:=Ael.1 (hp1.nodup_iff.1 w4.nd)
 have r3':∀p∈Pj++(k::(P1++P2)),p∉ [c2]:=fun p h1 h2=>r3 p h2 p h1 Z
 have hc2:A6 w.1 c2:=by unfold A6;rw[(hsm1 c2 (by simp)).1];exact a2.liv
 obtain⟨u1,u2⟩:=Il w2.gd hc2
 have hR2:∀p∈Pj++(k::(P1++P2)),A6 w.1 p:=fun p hp=>(w4.lv p).2 (.inr (by
  rcases Ach.1 hp with q|q
  ·exact Ada _ q
  ·exact Acy _ (Acy _ q)))
 have hsm2:=u2.same hR2 r3'
 have u3:=u2.frame hR2 r2 r3'
 generalize w.1.drop c2=u at u1 u2 u3 hsm2⊢
 rw[if_neg (by rw[u1];decide)]
 have hsm:Ei t u.1 (k::(P1++P2)):=(hsm1.sub (fun p hp=>Acy _ hp)).trans (hsm2.sub (fun p hp=>Acy _ hp))
 have hl':=hl.stay (hsm.sub (fun p hp=>by simp[hp]))
 have hr':=hr.stay (hsm.sub (fun p hp=>by simp[hp]))
 have ho':=w3.stay (hsm2.sub (fun p hp=>Ada _ hp))
 have hk':A6 u.1 k:=by unfold A6;rw[(hsm k (by simp)).1];exact hk
 have M:Mv t u.1 (k::(P1++(c1::Q1++c2::Q2)++P2)) (k::(P1++Pj++P2)) 2:=by
  refine((w4.trans (u3.perm hp1 (Adz _))).perm hp0 ?_).mono (by omega);refine Adw.2 fun a=>?_;simp only[Aeb,Aek,Agn];omega
 have hd:decide (h+1=0)=false:=decide_eq_false (Aef _)
 have hGu:=u2.gd
 have hszE:=hsz
 rw[size_inner] at hszE
 have fin:∀{n':Ax}{l},n'.leaf=false→Nd u.1 (Tr u.1 (h+1)) (decide (h+1=0)) n' l (P1++Pj++P2)→AX n'=true→Bc n'≤440→
   ((BG u.1 k n').2.2=0∧∃P',Mv t (BG u.1 k n').1 (k::(P1++(c1::Q1++c2::Q2)++P2)) P' 4∧Out (BG u.1 k n').1 (h+1) 0 (BG u.1 k n').2.1 l P')∨((BG u.1 k n').2.2=190∧t.free<4):=by
  intro n' l hlf hnd' hs' hz'
  rcases F4 hGu (h:=h+1) (z:=0) hnd' hs' (by rw[hlf];simpa using hz') hk' (Adf _) M.nd with ⟨y1,P',y2,y3⟩|⟨y1,y2⟩
  ·exact .inl ⟨y1,P',(M.trans y2).mono (by omega),y3⟩
  ·exact .inr ⟨y1,by have:=M.fr;omega⟩
 by_cases h2:0≤w.2.1.other
 ·rw[if_pos h2]
  have f1:(a++[kk]++b).set a.length w.2.1.key=a++[w.2.1.key]++b:=Gh
  have f2:((ca++[c1,c2]++cb).set a.length w.2.1.page).set (a.length+1) w.2.1.other=ca++[w.2.1.page,w.2.1.other]++cb:=by rw[←ea];exact XQ
  simp only[f1,f2]
  rcases ho' with ⟨q,_⟩|⟨_,_,x1,x2,X1,X2,ex,rfl,g1,g2,g3,g4,g5,g6⟩
  ·omega
  ·obtain⟨y1,t1,f3⟩:=Aed g1.ne
   obtain⟨y2,t2,f4⟩:=Aed g2.ne
   have ha':∀k∈a,Lt k w.2.1.key:=fun p hp=>I5 (ba p hp y1 (by rw[ex,f3];simp)) (g3 y1 (by simp[f3]))
   have hb':∀k∈b,Lt w.2.1.key k:=fun p hp=>I5 (g4 y2 (by simp[f4])) (bb p hp y2 (by rw[ex,f4];simp))
   have hko':KO (a++[w.2.1.key]++b):=by
    rw[Ace];refine KO.app.2 ⟨ko4,KO.cons.2 ⟨⟨g5,g6⟩,ko2,hb'⟩,fun x hx y hy=>?_⟩;rcases Acw.1 hy with rfl|hy
    ·exact ha' x hx
    ·exact ko3 x (Ada _ hx) y hy
   obtain⟨v1,v1Q,v1a,_,v1e,_⟩:=id g1
   obtain⟨v2,v2Q,v2a,_,v2e,_⟩:=id g2
   refine fin Z ?_ (BF.2 ⟨hko',by simp[ea,eb];omega,fun p hp=>?_⟩) ?_
   ·rw[hd]
    have:=Kd.IN (km:=[w.2.1.key]) (cm:=[w.2.1.page,w.2.1.other]) hl' (Kd.cons.2 ⟨x1,x2,X1,X2,Z,Z,g1,g3,g4,Kd.one.2 g2⟩) hr' hko' (by rw[←ex];exact ba) (by rw[←ex];exact bb)
    rw[←ex] at this
    exact .mki Z this
   ·rcases Ach.1 hp with hp|hp
    ·rcases Ach.1 hp with hp|hp
     ·exact hrng p (by simp[hp])
     ·rcases Acw.1 hp with rfl|hp
      ·exact DD hGu v1a.liv
      ·rw[Adh.1 hp];exact DD hGu v2a.liv
    ·exact hrng p (by simp[hp])
   ·rw[size_inner]
    simp only[Aci,Acx,Aei,Dd,Cf] at hszE⊢
    omega
 ·rw[if_neg h2]
  have f1:(a++[kk]++b).eraseIdx a.length=a++b:=Ig
  have f2:((ca++[c1,c2]++cb).set a.length w.2.1.page).eraseIdx (a.length+1)=ca++[w.2.1.page]++cb:=by rw[←ea];exact Uo
  simp only[f1,f2]
  have htr:=ho'.tr (by omega) (Acj _)
  obtain⟨v1,v1Q,v1a,_,v1e,_⟩:=id htr
  have hko':KO (a++b):=KO.app.2 ⟨ko4,ko2,fun x hx y hy=>ko3 x (Ada _ hx) y hy⟩
  refine fin Z ?_ (BF.2 ⟨hko',by simp[ea,eb];omega,fun p hp=>?_⟩) ?_
  ·rw[hd]
   refine .mki Z ?_
   have:=Kd.IN (km:=[]) (cm:=[w.2.1.page]) hl' (Kd.one.2 htr) hr' (by simpa using hko') ba bb
   simpa using this
  ·rcases Ach.1 hp with hp|hp
   ·rcases Ach.1 hp with hp|hp
    ·exact hrng p (by simp[hp])
    ·rw[Adh.1 hp];exact DD hGu v1a.liv
   ·exact hrng p (by simp[hp])
  ·rw[size_inner]
   simp only[Aci,Acx,Aei,Dd,Cf] at hszE⊢
   omega
end
def Qc(key:List UInt8)(h:Nat):Prop:=∀{s}{k:Int}{l}{P:List Int},Pgr.Good s→Tr s (h+1) k l P→P.Nodup→
  ((DX s k key (h+1)).2.2.2=0∧(DX s k key (h+1)).2.2.1=isK l key∧((isK l key=false∧(DX s k key (h+1)).1=s)∨
   (isK l key=true∧∃P',Mv s (DX s k key (h+1)).1 P P' (4*(h+1))∧Out (DX s k key (h+1)).1 h 0 (DX s k key (h+1)).2.1 (Cm l key).1 P')))∨
  ((DX s k key (h+1)).2.2.2=190∧s.free<4*(h+1))
def Xc{key}:Qc key 0:=by
  intro s k l P hG ⟨n,Q,hat,hne,eP,hn⟩ hnd;subst eP;rw[decide_eq_true Z] at hn;obtain⟨n1,n2⟩:=hn.leaf;have ef:=C0 hat.sound n1;obtain⟨ks,vs,rfl⟩:∃ks vs,n=⟨true,ks,vs,[]⟩:=⟨_,_,ef⟩
  simp only at n2 hne;obtain⟨hko,hvl,hv16⟩:=B6.1 hat.sound;have hlv:=hat.level (x:=((0+1:Nat):Int)) Z;have hlz:(AN s k ((0+1:Nat):Int)).2=0:=by rw[hlv]
  have hln:(AN s k ((0+1:Nat):Int)).1=⟨true,ks,vs,[]⟩:=by rw[hlv]
  have hsz:=hat.size;rw[size_leaf hvl] at hsz;have hQl:=n2.live;rcases Io hko (vs:=vs) key with ⟨a,b,rfl,hf,ha,hb⟩|⟨a,b,rfl,hf,ha,hb⟩
  ·rw[ZM hlz hln hf];obtain⟨va,c,vb,l1,v0,l2,P1,Pv,P2,rfl,ev,rfl,rfl,g1,g2,g3⟩:=O7 n2;have e0:(va++[c]++vb).getD a.length []=c:=by rw[←ev];exact EE
   have e1:(va++[c]++vb).eraseIdx a.length=va++vb:=by rw[←ev];exact Ig
   have e2:(a++key::b).eraseIdx a.length=a++b:=by
    have:=Ig (a:=a) (b:=b) (x:=key);simpa using this
   simp only[e0,e1,e2];have hp:(k::(P1++Pv++P2)).Perm ((k::(P1++P2))++Pv):=Adw.2 fun a=>by
    simp only[Aeb,Aek];omega
   obtain⟨q1,q2,q3⟩:=Ael.1 (hp.nodup_iff.1 hnd);have q3':∀p∈k::(P1++P2),p∉Pv:=fun p h1 h2=>q3 p h1 p h2 Z;obtain⟨d1,d2⟩:=g2.Aa4 hG q2;rw[if_neg (by rw[d1];decide)];have hR:∀p∈k::(P1++P2),A6 s p:=fun p hp=>by
    rcases Acw.1 hp with rfl|hp
    ·exact hat.liv
    ·rcases Ach.1 hp with hp|hp
     ·exact hQl p (by simp[hp])
     ·exact hQl p (by simp[hp])
   have hsm:=d2.same hR q3';have hl1:=I2 g1 ha;have hl2:=IX g3 hb;have hdel:(Cm (l1++[(key,v0)]++l2) key).1=l1++l2:=by rw[Ni hl1 hl2,QO];simp
   have hisk:isK (l1++[(key,v0)]++l2) key=true:=by rw[Em hl1 hl2,HA]
   have hLf:Lf (Cs s c).1 (a++b) (va++vb) (l1++l2) (P1++P2):=by
    have w1:=g1.stay (t:=(Cs s c).1) (fun p hp=>hsm p (by simp[hp]));have w3:=g3.stay (t:=(Cs s c).1) (fun p hp=>hsm p (by simp[hp]));exact w1.join w3
   have hko':KO (a++b):=by
    obtain⟨k1,k2,k3⟩:=KO.app.1 hko;exact KO.app.2 ⟨k1,(KO.cons.1 k2).2.1,fun x hx y hy=>k3 x hx y (Aco _ hy)⟩
   have hso:AX ⟨true,a++b,va++vb,[]⟩=true:=by
    refine B6.2 ⟨hko',by simp at hvl⊢;omega,fun x hx=>?_⟩;rcases Ach.1 hx with hx|hx
    ·exact hv16 x (by simp[hx])
    ·exact hv16 x (by simp[hx])
   have hnd2:Nd (Cs s c).1 (Tr (Cs s c).1 0) (decide (0=0)) ⟨true,a++b,va++vb,[]⟩ (l1++l2) (P1++P2):=by
    rw[decide_eq_true Z];exact .mkl Z hLf
   have hzz:Bc (⟨true,a++b,va++vb,[]⟩:Ax)≤340:=by
    rw[size_leaf (by simp at hvl⊢;omega)];simp only[Aci,Acx,Dd,Cf] at hsz⊢;omega
   rcases F4 d2.gd (h:=0) (z:=0) hnd2 hso hzz (by unfold A6;rw[(hsm k (by simp)).1];exact hat.liv) (Adf _) q1 with ⟨w1,P',w2,w3⟩|⟨w1,w2⟩
   ·refine .inl ⟨w1,by rw[hisk],.inr ⟨hisk,P',?_,by rw[hdel];exact w3⟩⟩;refine((d2.then w2 (Adz _) hR q1 q3').perm ?_ (Adz _)).mono (by omega);refine Adw.2 fun a=>?_;simp only[Aeb,Aek];omega
   ·exact .inr ⟨w1,by have:=d2.fr;omega⟩
  ·rw[ZU hlz hln hf];obtain⟨va,vb,l1,l2,P1,P2,rfl,ev,rfl,rfl,g1,g3⟩:=OF n2;have hl1:=I2 g1 ha;have hl2:=IX g3 hb;have hisk:isK (l1++l2) key=false:=by
    have:=Em (m:=[]) hl1 hl2;rw[O2,Adm] at this;exact this
   exact .inl ⟨Z,by rw[hisk],.inl ⟨hisk,Z⟩⟩
def YB{key}{h:Nat}(ihh:Qc key h):Qc key (h+1):=by
  intro s k l P hG ⟨n,Q,hat,hne,eP,hn⟩ hnd;subst eP;rw[decide_eq_false (Aef _)] at hn;obtain⟨n1,n2⟩:=hn.inner;have ef:=DI hat.sound n1;obtain⟨ks,cs,rfl⟩:∃ks cs,n=⟨false,ks,[],cs⟩:=⟨_,_,ef⟩
  simp only at n2 hne;obtain⟨hko,hcl,hrng⟩:=BF.1 hat.sound;have hlv:=hat.level (x:=((h+1+1:Nat):Int)) (by show false=_;exact(decide_eq_false (by omega)).symm);have hlz:(AN s k ((h+1+1:Nat):Int)).2=0:=by rw[hlv]
  have hln:(AN s k ((h+1+1:Nat):Int)).1=⟨false,ks,[],cs⟩:=by rw[hlv]
  obtain⟨a,b,rfl,hf,ha,hb⟩:=Hl hat.sound key;obtain⟨ca,c,cb,rfl,ec⟩:=IK cs (i:=a.length) (by rw[hcl];simp;omega);have ecb:cb.length=b.length:=by simp at hcl;omega
  have e0:(⟨false,a++b,[],ca++[c]++cb⟩:Ax).kids.getD a.length 0=c:=by show(ca++[c]++cb).getD a.length 0=c;rw[←ec];exact EE
  have n2':Kd (Tr s (h+1)) (a++[]++b) (ca++[c]++cb) l Q:=by simpa using n2
  obtain⟨l1,m,l2,P1,Pm,P2,rfl,rfl,g1,g2,g3,g4,g5⟩:=n2'.focus (by simpa using hko) ec Z;have hl1:∀x∈l1,Lt x.1 key:=fun x hx=>by
   obtain⟨p,p1,p2⟩:=g1.below x hx;exact G6 p2 (ha p p1)
  have hl2:∀x∈l2,Lt key x.1:=fun x hx=>by
   obtain⟨p,p1,p2⟩:=g3.Qe x hx;exact G6 (hb p p1) p2
  have hp:(k::(P1++Pm++P2)).Perm (Pm++(k::(P1++P2))):=Adw.2 fun a=>by
     simp only[Aeb,Aek];omega
  obtain⟨q1,q2,q3⟩:=Ael.1 (hp.nodup_iff.1 hnd);have q3':∀p∈k::(P1++P2),p∉Pm:=fun p h1 h2=>q3 p h2 p h1 Z;have hR:∀p∈k::(P1++P2),A6 s p:=fun p hp=>by
   rcases Acw.1 hp with rfl|hp
   ·exact hat.liv
   ·exact(Ach.1 hp).elim (g1.live p) (g3.live p)
  rw[Uk hlz hln hf (u:=DX s c key (h+1)) (by rw[e0])];have hisk:isK (l1++m++l2) key=isK m key:=Em hl1 hl2;have hdel:(Cm (l1++m++l2) key).1=l1++(Cm m key).1++l2:=by rw[Ni hl1 hl2]
  have ih:=ihh hG g2 q1;generalize DX s c key (h+1)=u at ih⊢;rcases ih with ⟨w1,w2,⟨w3,w4⟩|⟨w3,P',w4,w5⟩⟩|⟨w1,w2⟩
  ·rw[if_pos (.inr (by rw[w2,w3]))];exact .inl ⟨w1,by rw[w2,hisk],.inl ⟨by rw[hisk,w3],w4⟩⟩
  ·rw[if_neg (by rw[w1,w2,w3];simp)];have hsm:=w4.same hR q3';have w6:=w4.frame hR q2 q3';have hp2:(P'++(k::(P1++P2))).Perm (k::(P1++P'++P2)):=Adw.2 fun a=>by
     simp only[Aeb,Aek];omega
   have hnd2:=hp2.nodup_iff.1 w6.nd;have w7:=w6.perm hp hp2.symm;have hat':=hat.stay (hsm k (Acm ..));have g1':=g1.stay (fun p hp=>hsm p (by simp[hp]));have g3':=g3.stay (fun p hp=>hsm p (by simp[hp]));have ba:∀k∈a,∀x∈(Cm m key).1,¬Lt x.1 k:=fun p hp x hx=>g4 p hp x (H6 hx);have bb:∀k∈b,∀x∈(Cm m key).1,Lt x.1 k:=fun p hp x hx=>g5 p hp x (H6 hx);by_cases h2:u.2.1.other<0∧u.2.1.size<80
   ·rw[if_pos h2];obtain⟨n0,Q0,b1,b2,eP',b4⟩:∃n0 Q0,At u.1 u.2.1.page n0∧u.2.1.size=Bc n0∧P'=u.2.1.page::Q0∧Nd u.1 (Tr u.1 h) (decide (h=0)) n0 (Cm m key).1 Q0:=by
     rcases w5 with ⟨_,n0,Q0,b1,b2,e,_,b4⟩|⟨z1,_⟩
     ·exact⟨n0,Q0,b1,b2,e,b4⟩
     ·omega
    subst eP';have hz0:Bc n0≤79:=by have:=h2.2;omega
    have hsz:=hat.size;rw[size_inner] at hsz;have e1:(ca++[c]++cb).set a.length u.2.1.page=ca++[u.2.1.page]++cb:=by rw[←ec,Gh]
    simp only[e1];have fin:∀{r:PD×MdD×Int}{A:List Int}{l},(k::(P1++(u.2.1.page::Q0)++P2)).Perm A→l=l1++(Cm m key).1++l2→((r.2.2=0∧∃P'',Mv u.1 r.1 A P'' 4∧Out r.1 (h+1) 0 r.2.1 l P'')∨(r.2.2=190∧u.1.free<4))→
      ((r.2.2=0∧true=isK (l1++m++l2) key∧((isK (l1++m++l2) key=false∧r.1=s)∨(isK (l1++m++l2) key=true∧∃P'',Mv s r.1 (k::(P1++Pm++P2)) P'' (4*(h+1+1))∧Out r.1 (h+1) 0 r.2.1 (Cm (l1++m++l2) key).1 P'')))∨(r.2.2=190∧s.free<4*(h+1+1))):=by
     intro r A l hA el hr
     rcases hr with ⟨y1,P2',y2,y3⟩|⟨y1,y2⟩
     ·exact .inl ⟨y1,by rw[hisk,w3],.inr ⟨by rw[hisk,w3],P2',(w7.trans (y2.perm hA (Adz _))).mono (by omega),by rw[hdel,←el];exact y3⟩⟩
     ·exact .inr ⟨y1,by have:=w4.fr;omega⟩
    by_cases hbe:b=[]
    ·subst hbe;rcases g3 with ⟨_,rfl,rfl,rfl⟩|⟨_,_,q,_⟩
     ·rcases g1' with ⟨rfl,_⟩|⟨a',kk,rfl,r1,r2⟩
      ·exact absurd Z hne
      ·have hca:ca.length=a'.length+1:=by rw[ec];simp
       obtain⟨ca',c1,cx,rfl,ec'⟩:=IK ca (i:=a'.length) (by omega);have hcx:cx=[]:=Acl (by simp at hca;omega);subst hcx;have r1':Kd (Tr u.1 (h+1)) (a'++[]++[]) (ca'++[c1]++[]) l1 P1:=by simpa using r1
       have hka:KO (a'++[kk]):=(KO.app.1 hko).1;obtain⟨x1,m1,x2,X1,Y1,X2,rfl,rfl,f1,f2,f3,f4,f5⟩:=r1'.focus (by simpa using (KO.app.1 hka).1) ec' Z;rcases f3 with ⟨_,_,rfl,rfl⟩|⟨_,_,q,_⟩
       ·obtain⟨v1,V1,va,vb,rfl,vd⟩:=Kd.one.1 f2;refine fin (A:=k::(X1++(c1::V1++u.2.1.page::Q0)++[])) (l:=x1++(m1++(Cm m key).1)++[]) ?_ (by simp) ?_
        ·refine Adw.2 fun a=>?_;simp only[Aeb,Aek,Agn];omega
        ·have hm:=TJ w4.gd (i0:=a'.length+1) (a:=a') (b:=[]) (kk:=kk) (ca:=ca') (cb:=[]) (c1:=c1) (c2:=u.2.1.page) (l1:=x1) (l2:=[]) (P1:=X1) (P2:=[]) hat'.liv ec' Z (by simpa using hka)
          (fun p hp=>hrng p (by simp at hp⊢;simp[hp])) (by rw[size_inner];simp only[Aci,Acx,Aei,Dd,Cf] at hsz⊢;omega) (by simp) f1 (.inl ⟨Z,Z,Z,Z⟩) va vd b1 b4
          (by have:=va.size;omega) (.inl vb) (fun x hx=>r2 x (by simp[hx])) (fun x hx=>ba kk (by simp) x hx)
          (fun p hp x hx=>(Ach.1 hx).elim (f4 p hp x) (ba p (by simp[hp]) x)) (fun p hp=>by cases hp) ?_
         ·have e2:(ca'++[c1]++[]++[u.2.1.page]++[]:List Int)=ca'++[c1,u.2.1.page]++[]:=by simp
          have e3:(a'++[kk]).length=a'.length+1:=by simp
          rw[e2,e3];exact hm
         ·refine(List.Perm.nodup_iff ?_).1 hnd2;refine Adw.2 fun a=>?_;simp only[Aeb,Aek,Agn];omega
       ·cases q
     ·cases q
    ·rcases g3' with ⟨q,_⟩|⟨kk,b',rfl,r1,r2⟩
     ·exact absurd q hbe
     ·obtain⟨cx,c2,cb',rfl,ec'⟩:=IK cb (i:=0) (by rw[ecb];simp);have hcx:cx=[]:=Acl ec';subst hcx;have r1':Kd (Tr u.1 (h+1)) ([]++[]++b') ([]++[c2]++cb') l2 P2:=by simpa using r1
      have hkb:KO (kk::b'):=(KO.app.1 hko).2.1;obtain⟨x1,m2,x2,X1,Y1,X2,rfl,rfl,f1,f2,f3,f4,f5⟩:=r1'.focus (by simpa using (KO.cons.1 hkb).2.1) Z Z;rcases f1 with ⟨_,_,rfl,rfl⟩|⟨_,_,q,_⟩
      ·obtain⟨v2,V2,va,vb,rfl,vd⟩:=Kd.one.1 f2;refine fin (A:=k::(P1++(u.2.1.page::Q0++c2::V2)++X2)) (l:=l1++((Cm m key).1++m2)++x2) ?_ (by simp) ?_
       ·refine Adw.2 fun a=>?_;simp only[Aeb,Aek,Agn];omega
       ·have hm:=TJ w4.gd (i0:=a.length) (a:=a) (b:=b') (kk:=kk) (ca:=ca) (cb:=cb') (c1:=u.2.1.page) (c2:=c2) (l1:=l1) (l2:=x2) (P1:=P1) (P2:=X2) hat'.liv ec (by simp at ecb;omega) (by simpa using hko)
          (fun p hp=>hrng p (by simp at hp⊢;rcases hp with hp|hp<;>simp[hp])) (by rw[size_inner];simp only[Aci,Acx,Aei,Dd,Cf] at hsz⊢;omega) (by simp) g1' f3 b1 b4 va vd
          (by have:=va.size;omega) (.inr vb) (fun x hx=>bb kk (by simp) x hx) (fun x hx=>r2 x (by simp[hx]))
          (fun p hp x hx=>(Ach.1 hx).elim (ba p hp x) (fun hx e=>r2 x (by simp[hx]) (EG e ((KO.app.1 hko).2.2 p hp kk (by simp)))))
          (fun p hp x hx=>(Ach.1 hx).elim (bb p (by simp[hp]) x) (f5 p hp x)) ?_
        ·have e2:(ca++[u.2.1.page]++([]++[c2]++cb'):List Int)=ca++[u.2.1.page,c2]++cb':=by simp
         have e3:a++kk::b'=a++[kk]++b':=by simp
         rw[e2,e3];exact hm
        ·refine(List.Perm.nodup_iff ?_).1 hnd2;refine Adw.2 fun a=>?_;simp only[Aeb,Aek,Agn];omega
      ·simp at q
   ·rw[if_neg h2];have w5':Out u.1 h 1 u.2.1 (Cm m key).1 P':=by
     rcases w5 with ⟨z1,n0,Q0,b1,b2,rfl,_,b4⟩|w5
     ·refine .inl ⟨z1,n0,Q0,b1,b2,Z,Fx.1 (Zf b1.sound ?_),b4⟩;have:¬u.2.1.size<80:=fun q=>h2 ⟨z1,q⟩;omega
     ·exact .inr w5
    rcases Q8 w4.gd hat' ec hne g1' g3' w5' ba bb hnd2 with ⟨y1,P2',y2,y3⟩|⟨y1,y2⟩
    ·refine .inl ⟨y1,by rw[hisk,w3],.inr ⟨by rw[hisk,w3],P2',(w7.trans y2).mono (by omega),?_⟩⟩;rw[hdel];rcases y3 with ⟨z1,n0,Q0,b1,b2,rfl,_,b4⟩|y3
     ·exact .inl ⟨z1,n0,Q0,b1,b2,Z,Adf _,b4⟩
     ·exact .inr y3
    ·exact .inr ⟨y1,by have:=w4.fr;omega⟩
  ·rw[if_pos (.inl (by rw[w1];decide))];exact .inr ⟨w1,by omega⟩
def Vl{key}:∀h,Qc key h
 |0=>Xc
 |h+1=>YB (Vl h)
section
attribute [local irreducible] gwp gws xwp
end
def Rp:∀(l:List Int) (s:PD),Pgr.AG s (C5 s l)
 |[],s=>Pgr.AG.refl s
 |k::l,s=>(Pgr.AG.drop s k).trans (Rp l _)
def Na:∀(n:Nat) (s:PD) (l:List Int),Pgr.AG s (BB s l n).1
 |0,s,l=>Pgr.AG.refl s
 |n+1,s,l=>by
  rw[BB];split
  ·exact(Pgr.AG.AR s).trans (Na n _ _)
  ·exact Pgr.AG.AR s
def Tj{l:List Int}{b}:∀i,Pgr.AG s (Chn.C8 s l b i)
 |0=>Pgr.AG.refl s
 |i+1=>(Tj i).trans (Pgr.AG.put _ _ _)
def Y9(s:PD)(b:List UInt8):Pgr.AG s (B1 s b).1:=by
 have h:Pgr.AG s (Chn.Bi s (AM b.length)).1:=by
  unfold Chn.Bi;split
  ·exact Na _ _ _
  ·exact(Na _ _ _).trans (Rp _ _)
 unfold B1;dsimp only;split
 ·exact h.trans (Tj _)
 ·exact h
def RH:∀(l:List Int) (s:PD),Pgr.AG s (GH s l).1
 |[],s=>Pgr.AG.refl s
 |k::l,s=>by
  rw[GH];split
  ·exact(Pgr.AG.drop s k).trans (RH l _)
  ·exact Pgr.AG.drop s k
def XD(s:PD)(k n:Int):Pgr.AG s (NM s k n).1:=by
 unfold NM;split
 ·exact RH _ _
 ·exact Pgr.AG.refl s
def Ly(s:PD)(c:List UInt8):Pgr.AG s (Cs s c).1:=by
 unfold Cs;split
 ·exact Pgr.AG.refl s
 ·split
  ·exact XD _ _ _
  ·exact Pgr.AG.refl s
def Gb(s:PD)(v:List UInt8):Pgr.AG s (Bs s v).1:=by
 unfold Bs;split
 ·exact Pgr.AG.refl s
 ·exact Y9 s v
def Ek(s:PD)(k:Int)(n:Ax):Pgr.AG s (A5 s k n).1:=by
 unfold A5;split
 ·split
  ·exact Pgr.AG.put _ _ _
  ·split
   ·exact Pgr.AG.AR s
   ·split
    ·split
     ·exact(Pgr.AG.AR s).trans (Pgr.AG.drop _ _)
     ·exact((Pgr.AG.AR s).trans (Pgr.AG.drop _ _)).trans (Pgr.AG.put _ _ _)
    ·exact(Pgr.AG.AR s).trans (Pgr.AG.put _ _ _)
 ·exact Pgr.AG.refl s
def EO(s:PD)(k:Int)(n:Ax):Pgr.AG s (BG s k n).1:=by
 unfold BG;split
 ·exact Ek _ _ _
 ·split
  ·show Pgr.AG s (if (A5 s k (BJ n)).2.2=0 then _ else _:PD×MdD×Int).1;split
   ·exact(Ek _ _ _).trans (Ek _ _ _)
   ·exact Ek _ _ _
  ·exact Pgr.AG.refl s
def RX(s:PD)(k:Int)(n:Ax)(i:Nat)(m:MdD):Pgr.AG s (DY s k n i m).1:=by
 unfold DY;split
 ·exact Pgr.AG.refl s
 ·split
  ·exact EO _ _ _
  ·exact EO _ _ _
def N5(key cell:List UInt8):∀(h:Nat) (s:PD) (k:Int),Pgr.AG s (Dq s k key cell h).1
 |0,s,k=>Pgr.AG.refl s
 |h+1,s,k=>by
  rw[Dq];dsimp only;split
  ·exact Pgr.AG.refl s
  ·split
   ·split
    ·split
     ·exact Ly _ _
     ·exact(Ly _ _).trans (EO _ _ _)
    ·exact EO _ _ _
   ·split
    ·exact N5 key cell h _ _
    ·exact(N5 key cell h _ _).trans (RX _ _ _ _ _)
def ZL(s:PD)(k:Int)(n:Ax)(i:Nat):Pgr.AG s (FD s k n i).1:=by
 unfold FD;split
 ·exact Pgr.AG.refl s
 ·dsimp only;generalize (if i=n.keys.length then i - 1 else i)=j;split
  ·exact Pgr.AG.refl s
  ·split
   ·exact Pgr.AG.refl s
   ·split
    ·exact Pgr.AG.refl s
    ·split
     ·exact EO _ _ _
     ·split
      ·exact(EO _ _ _).trans (Pgr.AG.drop _ _)
      ·split
       ·exact((EO _ _ _).trans (Pgr.AG.drop _ _)).trans (EO _ _ _)
       ·exact((EO _ _ _).trans (Pgr.AG.drop _ _)).trans (EO _ _ _)
def N8(key:List UInt8):∀(h:Nat) (s:PD) (k:Int),Pgr.AG s (DX s k key h).1
 |0,s,k=>Pgr.AG.refl s
 |h+1,s,k=>by
  rw[DX];dsimp only;split
  ·exact Pgr.AG.refl s
  ·split
   ·split
    ·split
     ·exact Ly _ _
     ·exact(Ly _ _).trans (EO _ _ _)
    ·exact Pgr.AG.refl s
   ·split
    ·exact N8 key h _ _
    ·have h0:=N8 key h s ((AN s k ((h+1:Nat):Int)).1.kids.getD (findD (AN s k ((h+1:Nat):Int)).1 key).1 0);split
     ·exact h0.trans (ZL _ _ _ _)
     ·exact h0.trans (RX _ _ _ _ _)
def S5(t:TD)(m:MdD):Pgr.AG t.s (Lm t m).1.s:=by
 unfold Lm;split
 ·exact Pgr.AG.refl _
 ·exact Ek _ _ _
def Wj(t:TD):Pgr.AG t.s (F9 t).1.s:=by
 unfold F9;dsimp only;split
 ·exact Pgr.AG.refl _
 ·split
  ·exact Pgr.AG.drop _ _
  ·exact Pgr.AG.drop _ _
def Aam(t:TD)(key value:List UInt8):Pgr.AG t.s (DZ t key value).1.s:=by
 unfold DZ;dsimp only;split
 ·exact Gb _ _
 ·split
  ·exact(Gb _ _).trans (Ek _ _ _)
  ·split
   ·exact(Gb _ _).trans (N5 _ _ _ _ _)
   ·exact((Gb _ _).trans (N5 _ _ _ _ _)).trans (S5 {t with s:=_,count:=_} _)
def AaZ(t:TD)(key:List UInt8):Pgr.AG t.s (C4 t key).1.s:=by
 unfold C4;split
 ·exact Pgr.AG.refl _
 ·dsimp only;split
  ·exact N8 _ _ _ _
  ·have h:=(N8 key t.height t.s t.root).trans (S5 {t with s:=(DX t.s t.root key t.height).1,count:=t.count - 1} (DX t.s t.root key t.height).2.1);split
   ·exact h
   ·exact h.trans (Wj _)
end Go.Gk.Tre
end
section
namespace Go.Gk.Tre
open Go Go.Gk Go.Gk.Dev Go.Gk.Cch Go.Gk.Pgr Go.Gk.Chn Go.Gk.Node
attribute [local irreducible] gwp gws xwp
variable{f f1:FuncId}{s:PD}{root:Int}
structure UO (t:TD):Prop where
 r0: -1≤t.root
 r1:t.root≤16384
 h:t.height≤900000
 c:t.count≤900000
def EI(t:TD)(key value:List UInt8):TD×Int:=
 if Cq key≠0 then(t,Cq key) else if 16384<value.length then(t,3) else(Dl t (DZ t key value).1 (DZ t key value).2,(DZ t key value).2)
def IW(P:Program)(f:FuncId):Prop:=∀{d}{t:TD}{bt pb:Nat}{Tt L},C2 P f [pZ bt] d (tbD bt Tt (pZ pb) t::L) (vZ t.root)
def MM(a0:Nat):A3:=⟨9,[(.tmp 2)],(sR (o1 2 (.mv z0) .done) (.seq (sR (om 3 0<|oc 4 a0 [3] .done) (.cond 4 (sR (o1 2 (.mv (kZ (-1))) .done) .ret) .skip)) (sR (om 5 0<|o1 6 (.nilc 5)<|oj 7 1 6<|ol 8 7<|om 2 8 .done) .ret)))⟩
def XG{P}(hd:dec P f=some (MM f1))(h1:HJ P f1):IW P f:=by
 intro d t bt pb Tt L;refine AK hd (Aca Z) ?_;show gwp P _ _ _ _ _;refine Ad<|Ac Z<|Aa<|Ag<|Ad<|Ah Z<|B9 [] (h1 (L:=L)) Z Z ?_;(refine Aa<|AS Z<|Al<|Ad<|Ah Z<|AJ Z<|Aj Z<|Ai Z (Aq 0 Z Z)<|Ac Z<|Aa<|Ao ?_);exact Ci Z (Acd _) ⟨Z,Z,Z⟩
def Hb(P:Program)(f:FuncId):Prop:=∀{d}{t:TD}{bt pb:Nat}{Tt L},C2 P f [pZ bt] d (tbD bt Tt (pZ pb) t::L) (vZ t.height)
def Kp(a0:Nat):A3:=⟨9,[(.tmp 2)],(sR (o1 2 (.mv z0) .done) (.seq (sR (om 3 0<|oc 4 a0 [3] .done) (.cond 4 (sR (o1 2 (.mv z0) .done) .ret) .skip)) (sR (om 5 0<|o1 6 (.nilc 5)<|oj 7 2 6<|ol 8 7<|om 2 8 .done) .ret)))⟩
def Uj{P}(hd:dec P f=some (Kp f1))(h1:HJ P f1):Hb P f:=by
 intro d t bt pb Tt L;refine AK hd (Aca Z) ?_;show gwp P _ _ _ _ _;refine Ad<|Ac Z<|Aa<|Ag<|Ad<|Ah Z<|B9 [] (h1 (L:=L)) Z Z ?_;(refine Aa<|AS Z<|Al<|Ad<|Ah Z<|AJ Z<|Aj Z<|Ai Z (Aq 0 Z Z)<|Ac Z<|Aa<|Ao ?_);exact Ci Z (Acd _) ⟨Z,Z,Z⟩
def GU(P:Program)(f:FuncId):Prop:=∀{d}{t:TD}{bt pb:Nat}{Tt L},C2 P f [pZ bt] d (tbD bt Tt (pZ pb) t::L) (vZ t.count)
def LX(a0:Nat):A3:=⟨9,[(.tmp 2)],(sR (o1 2 (.mv z0) .done) (.seq (sR (om 3 0<|oc 4 a0 [3] .done) (.cond 4 (sR (o1 2 (.mv z0) .done) .ret) .skip)) (sR (om 5 0<|o1 6 (.nilc 5)<|oj 7 3 6<|ol 8 7<|om 2 8 .done) .ret)))⟩
def Vp{P}(hd:dec P f=some (LX f1))(h1:HJ P f1):GU P f:=by
 intro d t bt pb Tt L;refine AK hd (Aca Z) ?_;show gwp P _ _ _ _ _;refine Ad<|Ac Z<|Aa<|Ag<|Ad<|Ah Z<|B9 [] (h1 (L:=L)) Z Z ?_;(refine Aa<|AS Z<|Al<|Ad<|Ah Z<|AJ Z<|Aj Z<|Ai Z (Aq 0 Z Z)<|Ac Z<|Aa<|Ao ?_);exact Ci Z (Acd _) ⟨Z,Z,Z⟩
def S9{n:Nat}{key}:∀(x:Nat) (k:Int),ED (wtc s n) key k x=ED s key k x
 |0,_=>rfl
 |x+1,k=>by
  rw[ED,ED,show AN (wtc s n) k ((x+1:Nat):Int)=AN s k ((x+1:Nat):Int) from Z];simp only[LH,S9 x]
def Yl{n:Nat}{h c:Nat}{key}:Dk ⟨wtc s n,root,h,c⟩ key=Dk ⟨s,root,h,c⟩ key:=by
 unfold Dk;simp only[S9]
def Abx{P d}{h c:Nat}{dv pv kv L}{bt:Nat}{Tt key}(hf:NF P f)(hp:PgT d s dv pv L)(hk:AH d kv key)(hh:h≤1000000):
  AB P f [pZ bt,kv] d (tb bt Tt pv root h c::L) (Ret fun v d' L'=>Le d d'∧∃u L2,v=.tuple #[u,.bool (Dk ⟨s,root,h,c⟩ key).2.1,vZ (Dk ⟨s,root,h,c⟩ key).2.2]∧AH d' u (Dk ⟨s,root,h,c⟩ key).1∧L'=tb bt Tt pv root h c::L2∧PgT d' s dv pv L2):=by
 obtain⟨n,hp⟩:=hp
 refine AB.EF (hf (t:=⟨wtc s n,root,h,c⟩) (bt:=bt) (Tt:=Tt) hp hk hh) (fun r d' L' _ ⟨h0,u,L2,tc,h1,h2,h3,h4,_⟩=>⟨d',L',Vs.refl _ _,?_⟩)
 rw[Yl] at h1 h2
 exact⟨h0,u,L2,h1,h2,h3,tc,h4⟩
def VA{d v l}(hl:l.length≤140737488355328)(h:∃b c cs,v=.slice (some ⟨b,0,none⟩) l.length c∧l.length≤c∧c≤9223372036854775807∧DCs d b 0 cs∧cs.length=c∧cs.take l.length=l.map As):AH d v l:=by
 obtain⟨b,c,cs,rfl,h1,h2,h3,h4,h5⟩:=h;refine⟨some ⟨b,0,none⟩,c,b,0,Z,SAd.some _ _ _,fun _ a' q=>(by cases q;rfl),fun q=>(by cases q),h1,h2,hl,fun i hi=>⟨[As l[i]],Z,?_,Z⟩⟩
 have h6:cs[i]?=some (As l[i]):=by
  have:=congrArg (·[i]?) h5;simp only[Afc,Acf hi,Option.map_some] at this;rw[List.getElem?_take_of_lt hi] at this;exact this
 have:=(h3.at h6).cells;rw[Afd];exact this
def Jp(t:TD)(x:KV):Bool:=decide ((Dk t x.1).2.2=0)&&((Dk t x.1).2.1 && decide ((Dk t x.1).1=x.2))
def Hg(t:TD)(m:List KV):Bool:=m.all (Jp t)&& decide (t.count=m.length)
def QA(P:Program)(f:FuncId):Prop:=∀{d s}{root:Int}{h c:Nat}{dv pv w L}{bt:Nat}{Tt m},PgT d s dv pv L→RSl 2 RKv d w m→h≤1000000→c≤1000000000→
 AB P f [pZ bt,w] d (tb bt Tt pv root h c::L) (Ret fun v d' L'=>Le d d'∧v=.bool (Hg ⟨s,root,h,c⟩ m)∧∃L2,L'=tb bt Tt pv root h c::L2∧PgT d' s dv pv L2)
def KF(a0 a1:Nat):A3:=⟨44,[(.tmp 4)],(sR (o1 4 (.mv (.const (.bool false))) .done) (.seq (sR (om 10 1<|oL 11 10<|o1 12 (.mv z0) .done) (.block 0 (.loop (sR (ob 13 .lss 12 11 .done) (.seq (.cond 13 .skip (.exit 0)) (.seq (.block 1 (sR (oI 14 2 10 12<|o1 15 (.ld (some 2) 14)<|o1 6 (.alo (.agg #[(BC []),(BC [])]))<|o0 (.st 2 6 15) .done) (sR (om 17 0<|oj 18 0 6<|ol 19 18<|o1 20 (.mop (.s2b 19))<|oc 21 a0 [17,20]<|om 16 21<|oe 22 16 0<|oe 23 16 1<|oe 24 16 2<|om 7 22<|om 8 23<|om 9 24 .done) (sR (om 25 9<|ob 26 .neq 25 z0<|om 27 26<|gF 28 27 8<|oF 29 27 (.un .not 28)<|o1 30 (.pick 27 (.const (.bool true)) 29)<|om 31 30<|gF 32 31 7<|oF 33 31 (.b2s 32)<|oF 34 31 (.fld 1 6)<|oF 35 31 (.ld none 34)<|oF 36 31 (.bin .neq 33 35)<|o1 37 (.pick 31 (.const (.bool true)) 36) .done) (.cond 37 (sR (o1 4 (.mv (.const (.bool false))) .done) .ret) .skip))))) (rG (ob 38 .add 12 z1<|om 12 38 .done)))))))) (sR (om 39 0<|oc 40 a1 [39]<|om 41 1<|oL 42 41<|ob 43 .eql 40 42<|om 4 43 .done) .ret)))⟩
set_option maxRecDepth 4000 in
def Aah{P f2}(hd:dec P f=some (KF f1 f2))(h1:NF P f1)(h2:GU P f2):QA P f:=by
 intro d s root h c dv pv w L bt Tt m hp hw hh hcc;obtain⟨bp,rfl⟩:=hp.ptr;have hwl:=hw.Bt;obtain⟨a,cw,rfl⟩:=hw.val;refine AK hd (Aca Z) ?_;show gwp P _ _ _ _ _;refine Ad<|Af Z<|Aa<|Ag<|Ad<|Ak Z<|AO Z<|Ac Z<|Aa<|Az<|BM (α:=Nat) (fun x=>[(0,pZ bt),(1,.slice a m.length cw),(10,.slice a m.length cw),(11,vZ m.length),(12,vZ x)])
  (fun x d' L'=>Le d d'∧x≤m.length∧m.all (Jp ⟨s,root,h,c⟩)=(m.drop x).all (Jp ⟨s,root,h,c⟩)∧∃J L2,L'=J++tb bt Tt (pZ bp) root h c::L2∧PgT d' s dv (pZ bp) L2) (fun x=>m.length - x) 0 ⟨Z,Z,Z,Z,Z,trivial⟩
  ⟨Le.refl _,Adf _,Z,[],L,Z,hp⟩ ?_
 rintro i ρ d' L' ⟨hle,hi,hal,J,L2,rfl,hp2⟩;simp only at hi hal⊢;have hw2:=RSl.mono (R:=RKv) IV hw hle;by_cases e:i<m.length
 ·rw[Acu e,List.all_cons] at hal;refine Ad<|AA Z Z<|Aa<|Ag<|AF Z (by omega)<|Al<|Ag<|Az<|Ad<|A0 (m:=i) Z hw2 Z Z e (fun b o cs hcl hdc ⟨q,q1,q2⟩=>?_);subst q;(refine TR Z (by assumption) Z<|Da (fun _ _=>?_));rename_i b6 T6;refine Et 0 Z Z Z Z (Acj _) Z ?_;have hE:Jp ⟨s,root,h,c⟩ m[i]=(decide ((Dk ⟨s,root,h,c⟩ m[i].1).2.2=0)&&((Dk ⟨s,root,h,c⟩ m[i].1).2.1 && decide ((Dk ⟨s,root,h,c⟩ m[i].1).1=m[i].2))):=Z;rw[hE] at hal;clear hE;refine Aa<|Ad<|Ah Z<|Aj Z<|Ai Z (Aq 0 Z Z)<|AbJ (l:=m[i].1) Z q1 (fun v20 d3 hl3 hva hvb=>?_);have hb20:=VA q1 hvb;clear hvb;obtain⟨xa,xc,rfl⟩:=hva;have hcl:=Abx (root:=root) (c:=c) (bt:=bt) (Tt:=Tt) h1 (hp2.mono hl3) hb20 hh;generalize Dk ⟨s,root,h,c⟩ m[i].1=R at hcl hal;obtain⟨ru,rb,re⟩:=R;simp only at hcl hal;refine Be (_::J) hcl Z Z (fun v d4 L4 hl4 ⟨_,u,L5,e1,hu,e2,hp5⟩=>?_);subst e1;subst e2;obtain⟨ua,uc,rfl⟩:=hu.val;by_cases z1:re=0
  ·subst z1;cases rb with
   |true=>
    rw[show(decide ((0:Int)=0)&&(true && decide (ru=m[i].2)))=decide (ru=m[i].2) by simp] at hal
    by_cases z2:ru=m[i].2
    ·rw[decide_eq_true z2,Afm] at hal
     (refine AU Z<|Ap Z Z<|Ap Z Z<|Ap Z Z<|Ak Z<|Af Z<|Ac Z<|Aa<|Ad<|Ac Z<|AW Z Z<|Af Z<|A1 Z (by omega)<|Ae Z<|Af Z<|Ae Z<|Bd Z<|Av Z Z<|Af Z<|Ae Z<|Ak Z<|Ae Z<|FU Z (by assumption)<|Ae Z<|Aj Z<|Ae Z<|Ai Z (Aq 0 Z Z)<|Ae Z<|Li Z Z<|Av Z Z<|Aa ?_)
     show gwp P _ _ _ _ _
     first|refine Qb rfl (fun h9=>?_) (fun h9=>?_)|refine Vd rfl (fun h9=>?_) (fun h9=>?_)
     ·exact absurd z2 h9
     ·clear h9
      (refine Al<|AI<|AY Z Z (by omega) (by omega)<|Ac Z<|Aa ?_)
      exact⟨i+1,by omega,⟨Z,Z,Z,Z,Z,trivial⟩,(hle.trans hl3).trans hl4,e,hal,_::J,L5,Z,hp5⟩
    ·rw[decide_eq_false z2,Bool.false_and] at hal
     have hal:(m.all (Jp ⟨s,root,h,c⟩)=false)∧True:=⟨hal,trivial⟩
     (refine AU Z<|Ap Z Z<|Ap Z Z<|Ap Z Z<|Ak Z<|Af Z<|Ac Z<|Aa<|Ad<|Ac Z<|AW Z Z<|Af Z<|A1 Z (by omega)<|Ae Z<|Af Z<|Ae Z<|Bd Z<|Av Z Z<|Af Z<|Ae Z<|Ak Z<|Ae Z<|FU Z (by assumption)<|Ae Z<|Aj Z<|Ae Z<|Ai Z (Aq 0 Z Z)<|Ae Z<|Li Z Z<|Av Z Z<|Aa<|AF Z (by omega)<|Ad<|Af Z<|Aa<|Ao ?_)
     exact A9 [.bool false] ⟨Ar Z,trivial⟩ (d':=d4) (L':=tb bt Tt (pZ bp) root h c::L5) (Vs.drop (Adi (_::J) _)) ⟨(hle.trans hl3).trans hl4,(by show Value.bool false=_;rw[show Hg ⟨s,root,h,c⟩ m=false by unfold Hg;rw[hal.1];rfl]),L5,Z,hp5⟩
   |false=>
    rw[show(decide ((0:Int)=0)&&(false && decide (ru=m[i].2)))=false by simp,Bool.false_and] at hal
    have hal:(m.all (Jp ⟨s,root,h,c⟩)=false)∧True:=⟨hal,trivial⟩
    (refine AU Z<|Ap Z Z<|Ap Z Z<|Ap Z Z<|Ak Z<|Af Z<|Ac Z<|Aa<|Ad<|Ac Z<|AW Z Z<|Af Z<|A1 Z (by omega)<|Ae Z<|Af Z<|Ae Z<|Bd Z<|Av Z Z<|Af Z<|Am Z<|Am Z<|Am Z<|Am Z<|Am Z<|Ay Z Z<|Aa<|A8 Z<|Ad<|Af Z<|Aa<|Ao ?_)
    exact A9 [.bool false] ⟨Ar Z,trivial⟩ (d':=d4) (L':=tb bt Tt (pZ bp) root h c::L5) (Vs.drop (Adi (_::J) _)) ⟨(hle.trans hl3).trans hl4,(by show Value.bool false=_;rw[show Hg ⟨s,root,h,c⟩ m=false by unfold Hg;rw[hal.1];rfl]),L5,Z,hp5⟩
  ·rw[decide_eq_false z1,Bool.false_and,Bool.false_and] at hal;have hal:(m.all (Jp ⟨s,root,h,c⟩)=false)∧True:=⟨hal,trivial⟩
   (refine AU Z<|Ap Z Z<|Ap Z Z<|Ap Z Z<|Ak Z<|Af Z<|Ac Z<|Aa<|Ad<|Ac Z<|AW Z Z<|Af Z<|A4 Z (by omega)<|Am Z<|Am Z<|Ay Z Z<|Af Z<|Am Z<|Am Z<|Am Z<|Am Z<|Am Z<|Ay Z Z<|Aa<|A8 Z<|Ad<|Af Z<|Aa<|Ao ?_);exact A9 [.bool false] ⟨Ar Z,trivial⟩ (d':=d4) (L':=tb bt Tt (pZ bp) root h c::L5) (Vs.drop (Adi (_::J) _)) ⟨(hle.trans hl3).trans hl4,(by show Value.bool false=_;rw[show Hg ⟨s,root,h,c⟩ m=false by unfold Hg;rw[hal.1];rfl]),L5,Z,hp5⟩
 ·have:i=m.length:=by omega
  subst this;rw[Afb,List.all_nil] at hal;have hal:(m.all (Jp ⟨s,root,h,c⟩)=true)∧True:=⟨hal,trivial⟩
  refine Ad<|AA Z Z<|Aa<|Ag<|Aw Z (by omega)<|Ba<|Ad<|Ah Z<|B9 J (h2 (t:=⟨s,root,h,c⟩) (L:=L2)) Z Z ?_;(refine Ak Z<|AO Z<|AT Z Z<|Af Z<|Aa<|Ao ?_);exact A9 [.bool (decide ((c:Int)=(m.length:Int)))] ⟨Ar Z,trivial⟩ (d':=d') (L':=tb bt Tt (pZ bp) root h c::L2) (Vs.drop (Adi J _)) ⟨hle,(by show Value.bool _=_;rw[show Hg ⟨s,root,h,c⟩ m=decide ((c:Int)=(m.length:Int)) by unfold Hg;rw[hal.1,Afm];exact decide_eq_decide.2 (by show c=m.length↔_;omega)]),L2,Z,hp2⟩
end Go.Gk.Tre
end
section
namespace Go.Gk.Tre
open Go Go.Gk Go.Gk.Dev Go.Gk.Cch Go.Gk.Pgr Go.Gk.Chn Go.Gk.Node
variable{t:TD}{l:List KV}{P:List Int}
structure Tok (t:TD) (l:List KV) (P:List Int):Prop where
 gd:Pgr.Good t.s
 nd:P.Nodup
 ct:t.count=l.length
 tr:(t.height=0∧t.root= -1∧l=[]∧P=[])∨∃h,t.height=h+1∧Tr t.s (h+1) t.root l P
def Tok.live(h:Tok t l P):∀p∈P,A6 t.s p:=by
 rcases h.tr with ⟨_,_,_,rfl⟩|⟨x,_,q⟩
 ·exact fun p hp=>by cases hp
 ·exact q.live
def Mv.id{s}(hG:Pgr.Good s)(h1:∀p∈P,A6 s p)(h2:P.Nodup):Mv s s P P 0:=by
 simpa using (Mv.refl hG).frame h1 h2 (fun p _ q=>by cases q)
def Tok.id(h:Tok t l P):Mv t.s t.s P P 0:=Mv.id h.gd h.live h.nd
def Rn{s}(hG:Pgr.Good s){h:Nat}{md:MdD}(ho:0≤md.other)(o:Out s h 0 md l P)(hnd:P.Nodup):
  ((A5 s (-1) ⟨false,[md.key],[],[md.page,md.other]⟩).2.2=0∧∃P',Mv s (A5 s (-1) ⟨false,[md.key],[],[md.page,md.other]⟩).1 P P' 1∧
   Tr (A5 s (-1) ⟨false,[md.key],[],[md.page,md.other]⟩).1 (h+1+1) (A5 s (-1) ⟨false,[md.key],[],[md.page,md.other]⟩).2.1 l P'∧
   At (A5 s (-1) ⟨false,[md.key],[],[md.page,md.other]⟩).1 (A5 s (-1) ⟨false,[md.key],[],[md.page,md.other]⟩).2.1 ⟨false,[md.key],[],[md.page,md.other]⟩)∨
  ((A5 s (-1) ⟨false,[md.key],[],[md.page,md.other]⟩).2.2=190∧s.free<1):=by
 have hlv:=o.live
 rcases o with ⟨q,_⟩|⟨_,_,l1,l2,P1,P2,rfl,rfl,g1,g2,g3,g4,g5,g6⟩
 ·omega
 ·obtain⟨v1,_,va,_⟩:=id g1
  obtain⟨v2,_,vb,_⟩:=id g2
  have hs:AX ⟨false,[md.key],[],[md.page,md.other]⟩=true:=by
   refine BF.2 ⟨KO.cons.2 ⟨⟨g5,g6⟩,KO.nil,fun _ h=>by cases h⟩,Z,fun c hc=>?_⟩;rcases Acw.1 hc with rfl|hc
   ·exact DD hG va.liv
   ·rw[Adh.1 hc];exact DD hG vb.liv
  have hr:AV ⟨false,[md.key],[],[md.page,md.other]⟩=true:=by
   simp only[AV,hs,Afm,decide_eq_true_eq];rw[size_inner];simp only[Cf,Acx,Aei];omega
  rcases Ld hG hr with ⟨h1,h2,h3⟩|h1
  ·have hfr:=h2.frame hlv hnd (fun p _ q=>by cases q)
   have hsm:=h2.same hlv (fun p _ q=>by cases q)
   refine .inl ⟨h1,_,hfr,⟨_,_,h3,by simp,Z,?_⟩,h3⟩
   rw[decide_eq_false (Aef _)]
   exact .mki Z (Kd.cons.2 ⟨l1,l2,P1,P2,Z,Z,g1.stay (hsm.sub (fun p hp=>Ada _ hp)),g3,g4,Kd.one.2 (g2.stay (hsm.sub (fun p hp=>Acy _ hp)))⟩)
  ·exact .inr h1
def Yg(h:Tok t l P){key v}(hk:1≤key.length∧key.length≤64)(hv:v.length≤16384):
  ((DZ t key v).2=0∧∃P',Tok (DZ t key v).1 (Ea l key v) P'∧Mv t.s (DZ t key v).1.s P P' (AM v.length+2*t.height+1))∨((DZ t key v).2=190∧t.s.free<AM v.length+2*t.height+1):=by
 unfold DZ
 dsimp only
 have hc:=TC h.gd hv
 generalize Bs t.s v=c at hc⊢
 rcases hc with ⟨c1,Pc,c2,c3⟩|⟨c1,c2⟩
 ·rw[if_neg (by rw[c1];decide)]
  have hsmc:=c2.same h.live (fun p _ q=>by cases q)
  have c4:=c2.frame h.live h.nd (fun p _ q=>by cases q)
  rcases h.tr with ⟨e1,e2,rfl,rfl⟩|⟨x,e1,e2⟩
  ·rw[if_pos e1]
   have hs:AX ⟨true,[key],[c.2.1],[]⟩=true:=B6.2 ⟨KO.cons.2 ⟨hk,KO.nil,fun _ h=>by cases h⟩,Z,fun v hv=>by rw[Adh.1 hv];exact c3.len⟩
   have hr:AV ⟨true,[key],[c.2.1],[]⟩=true:=by
    simp only[AV,hs,Afm,decide_eq_true_eq];rw[size_leaf (ks:=[key]) (vs:=[c.2.1]) Z];have:=c3.len;simp only[Cf,Acx,Aei];omega
   have hp:=Ld c2.gd hr
   generalize A5 c.1 (-1) ⟨true,[key],[c.2.1],[]⟩=k at hp⊢
   rcases hp with ⟨p1,p2,p3⟩|⟨p1,p2⟩
   ·have hlv:=c3.live
    have hnd:=c2.nd
    have p4:=p2.frame hlv hnd (fun p _ q=>by cases q)
    have hsm:=p2.same hlv (fun p _ q=>by cases q)
    have hM:Mv t.s k.1 [] (k.2.1::Pc) (AM v.length+1):=c2.trans p4
    refine .inl ⟨p1,k.2.1::Pc,⟨p2.gd,hM.nd,Z,.inr ⟨0,Z,⟨_,Pc,p3,by simp,Z,?_⟩⟩⟩,by rw[e1];exact hM.mono (by omega)⟩
    rw[decide_eq_true Z]
    exact .mkl Z (Lf.one (c3.stay hsm))
   ·exact .inr ⟨p1,by have:=c2.fr;omega⟩
  ·rw[if_neg (by omega)]
   have hnd:(P++Pc).Nodup:=(List.perm_append_comm.nodup_iff).1 c4.nd
   have hi:=Wn (v:=v) hk x c2.gd (e2.stay hsmc) hnd c3
   rw[e1]
   generalize Dq c.1 t.root key c.2.1 (x+1)=u at hi⊢
   rcases hi with ⟨i1,i2,P',i3,i4⟩|⟨i1,i2⟩
   ·rw[if_neg (by rw[i1];decide)]
    have hM:Mv t.s u.1 P P' (AM v.length+2*(x+1)):=(c4.perm (A':=P) (by simp) Acn).trans i3
    have hct:t.count+(if u.2.2.1=true then 1 else 0)=(Ea l key v).length:=by
     rw[Rx,h.ct,i2];cases isK l key<;>simp
    unfold Lm
    by_cases ho:u.2.1.other<0
    ·rw[if_pos ho]
     exact .inl ⟨Z,P',⟨i3.gd,hM.nd,hct,.inr ⟨x,Z,i4.tr ho (Acj _)⟩⟩,hM.mono (by omega)⟩
    ·rw[if_neg ho]
     have i4':Out u.1 x 0 u.2.1 (Ea l key v) P':=by
      rcases i4 with ⟨q,_⟩|q
      ·exact absurd q ho
      ·exact .inr q
     have hr:=Rn i3.gd (by omega) i4' hM.nd
     dsimp only
     generalize A5 u.1 (-1) ⟨false,[u.2.1.key],[],[u.2.1.page,u.2.1.other]⟩=r at hr⊢
     rcases hr with ⟨r1,P2,r2,r3,r4⟩|⟨r1,r2⟩
     ·exact .inl ⟨r1,P2,⟨r2.gd,r2.nd,hct,.inr ⟨x+1,Z,r3⟩⟩,(hM.trans r2).mono (by omega)⟩
     ·exact .inr ⟨r1,by have:=hM.fr;omega⟩
   ·rw[if_pos (by rw[i1];decide)]
    exact .inr ⟨i1,by have:=c2.fr;omega⟩
 ·rw[if_pos (by rw[c1];decide)]
  exact .inr ⟨c1,by omega⟩
def PN(hG:Pgr.Good t.s){h:Nat}{n:Ax}{Q:List Int}(e:t.height=h+1)(hat:At t.s t.root n)(hn:Nd t.s (Tr t.s h) (decide (h=0)) n l Q)(hnd:(t.root::Q).Nodup)(hc:t.count=l.length):
  (F9 t).2=0∧∃P',Tok (F9 t).1 l P'∧Mv t.s (F9 t).1.s (t.root::Q) P' 0:=by
 unfold F9
 rw[hat.read]
 dsimp only
 have hlv:∀p∈t.root::Q,A6 t.s p:=fun p hp=>(Acw.1 hp).elim (fun e=>e▸hat.liv) (hn.live p)
 by_cases hk:n.keys=[]
 ·rw[if_neg (by simp[hk])]
  obtain⟨q1,q2⟩:=Afn.1 hnd
  obtain⟨d1,d2⟩:=Il hG hat.liv
  rw[if_neg (by rw[d1];decide)]
  have hx:∀p∈Q,p∉ [t.root]:=fun p hp q=>q1 (Adh.1 q▸hp)
  have d3:=d2.frame hn.live q2 hx
  have hsm:=d2.same hn.live hx
  by_cases h0:h=0
  ·rw[decide_eq_true h0] at hn
   obtain⟨n1,n2⟩:=hn.leaf
   rw[hk] at n2
   have hl0:=n2.len
   have hvl:=Acl hl0.1
   rw[hvl,Lf] at n2
   obtain⟨rfl,rfl⟩:=n2
   refine⟨Z,[],⟨d2.gd,Agd,hc,.inl ⟨?_,?_,Z,Z⟩⟩,d3⟩
   ·show t.height - 1=0;omega
   ·show(if n.leaf=true then(-1:Int) else _)= -1;rw[if_pos n1]
  ·rw[decide_eq_false h0] at hn
   obtain⟨n1,n2⟩:=hn.inner
   rw[hk] at n2
   have hl0:=n2.len
   obtain⟨c,ec⟩:∃c,n.kids=[c]:=by
    cases hq:n.kids with
    |nil=>rw[hq] at hl0;cases hl0
    |cons c r=>
     rw[hq] at hl0
     exact⟨c,by rw[Acl (show r.length=0 by simpa using hl0)]⟩
   rw[ec] at n2
   have n3:=Kd.one.1 n2
   obtain⟨h',rfl⟩:∃h',h=h'+1:=⟨h - 1,by omega⟩
   refine⟨Z,Q,⟨d2.gd,q2,hc,.inr ⟨h',?_,?_⟩⟩,d3⟩
   ·show t.height - 1=h'+1;omega
   ·show Tr (t.s.drop t.root).1 (h'+1) (if n.leaf=true then(-1:Int) else n.kids.getD 0 0) l Q
    rw[if_neg (by rw[n1];decide),ec]
    exact n3.stay hsm
 ·rw[if_pos (by simp[hk])]
  exact⟨Z,_,⟨hG,hnd,hc,.inr ⟨h,e,⟨n,Q,hat,hk,Z,hn⟩⟩⟩,Mv.id hG hlv hnd⟩
def X8(h:Tok t l P)(key:List UInt8):
  ((C4 t key).2.2=0∧(C4 t key).2.1=isK l key∧∃P',Tok (C4 t key).1 (Cm l key).1 P'∧Mv t.s (C4 t key).1.s P P' (4*t.height+1))∨((C4 t key).2.2=190∧t.s.free<4*t.height+1):=by
 unfold C4
 rcases h.tr with ⟨e1,e2,rfl,rfl⟩|⟨x,e1,e2⟩
 ·rw[if_pos e1]
  exact .inl ⟨Z,Z,[],h,(Mv.refl h.gd).mono (Adf _)⟩
 ·rw[if_neg (by omega)]
  dsimp only
  have hr:=Vl (key:=key) x h.gd e2 h.nd
  rw[e1]
  generalize DX t.s t.root key (x+1)=u at hr⊢
  rcases hr with ⟨r1,r2,⟨r3,r4⟩|⟨r3,P',r4,r5⟩⟩|⟨r1,r2⟩
  ·rw[if_pos (.inr (by rw[r2,r3]))]
   refine .inl ⟨r1,r3.symm,P,?_,?_⟩
   ·have e:(Cm l key).1=l:=by unfold Cm;rw[if_neg (by rw[r3];decide)]
    rw[e]
    show Tok ⟨u.1,t.root,x+1,t.count⟩ l P
    rw[r4,←e1];exact h
   ·show Mv t.s u.1 P P _
    rw[r4];exact h.id.mono (Adf _)
  ·rw[if_neg (by rw[r1,r2,r3];simp)]
   have hct:t.count - 1=(Cm l key).1.length:=by
    have:=QB (l:=l) (key:=key);rw[r3,if_pos Z] at this;have:=h.ct;omega
   unfold Lm
   by_cases ho:u.2.1.other<0
   ·rw[if_pos ho]
    rcases r5 with ⟨_,n,Q,b1,b2,rfl,_,b4⟩|⟨q,_⟩
    ·rw[if_neg (fun q=>q Z)]
     obtain⟨s1,P2,s2,s3⟩:=PN (t:=⟨u.1,u.2.1.page,x+1,t.count - 1⟩) r4.gd (h:=x) Z b1 b4 r4.nd hct
     exact .inl ⟨s1,r3.symm,P2,s2,(r4.trans s3).mono (by omega)⟩
    ·omega
   ·rw[if_neg ho]
    have hrt:=Rn r4.gd (by omega) r5 r4.nd
    dsimp only
    generalize A5 u.1 (-1) ⟨false,[u.2.1.key],[],[u.2.1.page,u.2.1.other]⟩=r at hrt⊢
    rcases hrt with ⟨w1,P2,w2,w3,w4⟩|⟨w1,w2⟩
    ·rw[if_neg (by rw[w1];decide)]
     obtain⟨n,Q,b1,b2,b3,b4⟩:=w3
     subst b3
     obtain⟨s1,P3,s2,s3⟩:=PN (t:=⟨r.1,r.2.1,x+1+1,t.count - 1⟩) w2.gd (h:=x+1) Z b1 b4 w2.nd hct
     exact .inl ⟨s1,r3.symm,P3,s2,((r4.trans w2).trans s3).mono (by omega)⟩
    ·rw[if_pos (by rw[w1];decide)]
     exact .inr ⟨w1,by have:=r4.fr;omega⟩
  ·rw[if_pos (.inl (by rw[r1];decide))]
   exact .inr ⟨r1,by omega⟩
def Wa{key}:∀(h:Nat) {s}{k:Int}{l}{P:List Int},Tr s (h+1) k l P→
  ED s key k (h+1)=((EY l key).1,(EY l key).2,0)∧∃n,GO s key k (h+1)=h+1+n∧n=if isK l key=true then(if 15<(EY l key).1.length then AM (EY l key).1.length else 0) else 0
 |0,s,k,l,P,⟨n,Q,hat,hne,eP,hn⟩=>by
  subst eP;rw[decide_eq_true Z] at hn;obtain⟨n1,n2⟩:=hn.leaf;have ef:=C0 hat.sound n1;obtain⟨ks,vs,rfl⟩:∃ks vs,n=⟨true,ks,vs,[]⟩:=⟨_,_,ef⟩
  simp only at n2 hne;obtain⟨hko,hvl,hv16⟩:=B6.1 hat.sound;have hlv:=hat.level (x:=((0+1:Nat):Int)) Z;have hlz:(AN s k ((0+1:Nat):Int)).2=0:=by rw[hlv]
  have hln:(AN s k ((0+1:Nat):Int)).1=⟨true,ks,vs,[]⟩:=by rw[hlv]
  rcases Io hko (vs:=vs) key with ⟨a,b,rfl,hf,ha,hb⟩|⟨a,b,rfl,hf,ha,hb⟩
  ·obtain⟨va,c,vb,l1,v0,l2,P1,Pv,P2,rfl,ev,rfl,rfl,g1,g2,g3⟩:=O7 n2;have e0:(va++[c]++vb).getD a.length []=c:=by rw[←ev];exact EE
   have hl1:=I2 g1 ha;have hl2:=IX g3 hb;have hget:EY (l1++[(key,v0)]++l2) key=(v0,true):=by rw[MW hl1 hl2,QM]
   have hisk:isK (l1++[(key,v0)]++l2) key=true:=by rw[Em hl1 hl2,HA]
   have hg:=Ty hlz hln hf;simp only[e0] at hg;rw[hget,hisk];refine⟨?_,_,?_,Z⟩
   ·rw[hg.1,g2.val];simp
   ·rw[hg.2,g2.Dn,if_pos Z]
  ·obtain⟨va,vb,l1,l2,P1,P2,rfl,ev,rfl,rfl,g1,g3⟩:=OF n2;have hl1:=I2 g1 ha;have hl2:=IX g3 hb;have hisk:isK (l1++l2) key=false:=by
    have:=Em (m:=[]) hl1 hl2;rw[O2,Adm] at this;exact this
   have hget:EY (l1++l2) key=([],false):=by unfold EY;rw[if_neg (by rw[hisk];decide)]
   obtain⟨y1,y2⟩:=TB hlz hln hf;rw[hget,hisk];exact⟨y1,0,y2,Z⟩
 |h+1,s,k,l,P,⟨n,Q,hat,hne,eP,hn⟩=>by
  subst eP;rw[decide_eq_false (Aef _)] at hn;obtain⟨n1,n2⟩:=hn.inner;have ef:=DI hat.sound n1;obtain⟨ks,cs,rfl⟩:∃ks cs,n=⟨false,ks,[],cs⟩:=⟨_,_,ef⟩
  simp only at n2 hne;obtain⟨hko,hcl,hrng⟩:=BF.1 hat.sound;have hlv:=hat.level (x:=((h+1+1:Nat):Int)) (by show false=_;exact(decide_eq_false (by omega)).symm);have hlz:(AN s k ((h+1+1:Nat):Int)).2=0:=by rw[hlv]
  have hln:(AN s k ((h+1+1:Nat):Int)).1=⟨false,ks,[],cs⟩:=by rw[hlv]
  obtain⟨a,b,rfl,hf,ha,hb⟩:=Hl hat.sound key;obtain⟨ca,c,cb,rfl,ec⟩:=IK cs (i:=a.length) (by rw[hcl];simp;omega);have e0:(ca++[c]++cb).getD a.length 0=c:=by rw[←ec];exact EE
  have n2':Kd (Tr s (h+1)) (a++[]++b) (ca++[c]++cb) l Q:=by simpa using n2
  obtain⟨l1,m,l2,P1,Pm,P2,rfl,rfl,g1,g2,g3,g4,g5⟩:=n2'.focus (by simpa using hko) ec Z;have hl1:∀x∈l1,Lt x.1 key:=fun x hx=>by
   obtain⟨p,p1,p2⟩:=g1.below x hx;exact G6 p2 (ha p p1)
  have hl2:∀x∈l2,Lt key x.1:=fun x hx=>by
   obtain⟨p,p1,p2⟩:=g3.Qe x hx;exact G6 (hb p p1) p2
  have hg:=On hlz hln hf;simp only[e0] at hg;obtain⟨i1,i2,i3,i4⟩:=Wa (key:=key) h g2;rw[MW hl1 hl2,Em hl1 hl2];exact⟨hg.1.trans i1,i2,by rw[hg.2,i3];omega,i4⟩
def QW{R:RT}{m:Nat}(hR:∀c l P,R c l P→m≤l.length):∀{ks}{cs:List Int}{l}{P:List Int},Kd R ks cs l P→m*(ks.length+1)≤l.length
 |[],[c],l,P,h=>by simpa using hR c l P h
 |[],[],l,P,h=>h.elim
 |[],_::_::_,l,P,h=>h.elim
 |_::_,[],l,P,h=>h.elim
 |k::ks,c::cs,l,P,h=>by
  obtain⟨l1,l2,P1,P2,rfl,rfl,h1,h2,h3,h4⟩:=Kd.cons.1 h;have a:=hR _ _ _ h1;have b:=QW hR h4;rw[Aci,Acx,Nat.mul_succ];omega
def RY:∀(h:Nat) {s}{k:Int}{l}{P:List Int},Tr s (h+1) k l P→2 ^ h≤l.length
 |0,s,k,l,P,ht=>Fx.1 ht.ne
 |h+1,s,k,l,P,⟨n,Q,hat,hne,eP,hn⟩=>by
  rw[decide_eq_false (Aef _)] at hn;have h1:=QW (m:=2 ^ h) (fun c l P q=>RY h q) hn.inner.2;have h2:=Fx.1 hne;have:2 ^ h*2≤2 ^ h*(n.keys.length+1):=Ahl _ (by omega);rw[Nat.pow_succ];omega
def Tok.high(h:Tok t l P):(l=[]∧t.height=0∧t.root= -1)∨(l≠[]∧1≤t.height∧2 ^ t.height≤2*l.length):=by
 rcases h.tr with ⟨e1,e2,rfl,_⟩|⟨x,e1,e2⟩
 ·exact .inl ⟨Z,e1,e2⟩
 ·refine .inr ⟨e2.ne,by omega,?_⟩;have:=RY x e2;rw[e1,Nat.pow_succ];omega
def Tok.get(h:Tok t l P)(key:List UInt8):ED t.s key t.root t.height=((EY l key).1,(EY l key).2,0):=by
 rcases h.tr with ⟨e1,e2,rfl,_⟩|⟨x,e1,e2⟩
 ·rw[e1];rfl
 ·rw[e1];exact(Wa x e2).1
section
attribute [local irreducible] gwp gws xwp
end
section
attribute [local irreducible] gwp gws xwp
end
end Go.Gk.Tre
end
section
namespace Go.Gk.Tre
open Go Go.Gk Go.Gk.Dev Go.Gk.Cch Go.Gk.Pgr Go.Gk.Chn Go.Gk.Node
attribute [local irreducible] gwp gws xwp
def Hm(t:TD)(key:List UInt8):TD×Bool×Int:=
 if Cq key≠0 then(t,false,Cq key) else(Dl t (C4 t key).1 (C4 t key).2.2,(C4 t key).2.1 && decide ((C4 t key).2.2=0),(C4 t key).2.2)
end Go.Gk.Tre
end
section
namespace Go.Gk.Tre
open Go Go.Gk Go.Gk.Dev Go.Gk.Cch Go.Gk.Pgr Go.Gk.Chn Go.Gk.Node
variable{s:PD}{t:TD}{N i:Nat}{l:List KV}{P:List Int}{key:List UInt8}{x:KV}
def U9(s:PD)(P:List Int):Prop:=∀k,A6 s k↔k∈P
def U9.mv{t}{A B:List Int}{c:Nat}(h:U9 s A)(k:Mv s t A B c):U9 t B:=fun p=>by
 rw[k.lv,h p];exact⟨fun q=>q.elim (fun q=>absurd q.1 q.2) id,.inr⟩
structure Gr (N i:Nat) (t:TD) (l:List KV) (P:List Int):Prop where
 ok:Tok t l P
 on:U9 t.s P
 ln:l.length≤i
 kv:∀x∈l,x.1.length≤64∧x.2.length≤700
 kn:t.s.kinds.length=N
def Gr.more{j:Nat}(h:Gr N i t l P)(hj:i≤j):Gr N j t l P:=⟨h.ok,h.on,by have:=h.ln;omega,h.kv,h.kn⟩
def Tok.far(h:Tok t l P)(hl:l.length≤1000):UO t∧t.height≤2000:=by
 have hc:=h.ct;have hh:t.height≤2000:=by
  rcases h.high with ⟨_,e,_⟩|⟨_,_,e⟩
  ·omega
  ·have:t.height<2 ^ t.height:=Nat.lt_two_pow_self;omega
 refine⟨⟨?_,?_,by omega,by omega⟩,hh⟩
 ·rcases h.tr with ⟨_,e,_⟩|⟨x,_,⟨n,Q,hat,_⟩⟩
  ·omega
  ·have:=DD h.gd hat.liv;omega
 ·rcases h.tr with ⟨_,e,_⟩|⟨x,_,⟨n,Q,hat,_⟩⟩
  ·omega
  ·have:=DD h.gd hat.liv;omega
def V5{t}(h:Pgr.AG s t)(hG:Pgr.Good s):Pgr.Good (t.back s.mark):=
 ⟨hG.one,hG.len,by show t.frm+s.kinds.length≤t.syn.length;rw[h.frm,h.syn];exact hG.inn,by show t.syn.length≤8192;rw[h.syn];exact hG.syn,hG.kd⟩
def Vh{t}(h:Pgr.AG s t)(P:List Int):Ei s (t.back s.mark) P:=fun p _=>⟨Kc h p,Ud h p⟩
def Tok.same(h:Tok t l P)(hG:Pgr.Good s)(hs:Ei t.s s P):Tok {t with s:=s} l P:=
 ⟨hG,h.nd,h.ct,by
  rcases h.tr with e|⟨x,e,ht⟩
  ·exact .inl e
  ·exact .inr ⟨x,e,ht.stay hs⟩⟩
def Gr.back(h:Gr N i t l P){r}(hk:Pgr.AG t.s r):Gr N i {t with s:=r.back t.s.mark} l P∧(r.back t.s.mark).free=t.s.free:=
 ⟨⟨h.ok.same (V5 hk h.ok.gd) (Vh hk P),fun k=>by
  have:=h.on k;unfold A6 at this⊢;show(r.back t.s.mark).kind k=1∨(r.back t.s.mark).kind k=2↔_;rw[Kc hk];exact this,h.ln,h.kv,h.kn⟩,Z⟩
def SC(h:Cq key=0):1≤key.length∧key.length≤64:=by unfold Cq at h;split at h<;>omega
def Gr.put(h:Gr N i t l P){v}(hw:Cq key=0)(hv:v.length≤700):
  ((EI t key v).2=0∧∃P',Gr N (i+1) (EI t key v).1 (Ea l key v) P')∨
  ((EI t key v).2=190∧t.s.free<4*t.height+3+AM v.length∧(EI t key v).1.s.free=t.s.free∧Gr N (i+1) (EI t key v).1 l P):=by
 have hk:=SC hw
 have e:EI t key v=(Dl t (DZ t key v).1 (DZ t key v).2,(DZ t key v).2):=by unfold EI;rw[if_neg (fun q=>q hw),if_neg (by omega)]
 have hkp:=Aam t key v
 rw[e]
 rcases Yg h.ok hk (v:=v) (by omega) with ⟨h1,P',h2,h3⟩|⟨h1,h2⟩
 ·refine .inl ⟨h1,P',?_⟩
  show Gr N (i+1) (Dl t (DZ t key v).1 (DZ t key v).2) _ _
  unfold Dl
  rw[if_pos h1]
  refine⟨h2,h.on.mv h3,?_,fun x hx=>?_,by rw[hkp.len];exact h.kn⟩
  ·have:=Rx (l:=l) (key:=key) (v:=v)
   have:=h.ln
   split at* <;>omega
  ·rcases Nn hx with rfl|hx
   ·exact⟨hk.2,hv⟩
   ·exact h.kv x hx
 ·obtain⟨g1,g2⟩:=h.back hkp
  refine .inr ⟨h1,by omega,?_,?_⟩
  ·show(Dl t (DZ t key v).1 (DZ t key v).2).s.free=_
   unfold Dl
   rw[if_neg (by rw[h1];decide)]
   exact g2
  ·show Gr N (i+1) (Dl t (DZ t key v).1 (DZ t key v).2) _ _
   unfold Dl
   rw[if_neg (by rw[h1];decide)]
   exact g1.more (Nat.le_succ _)
def Gr.del(h:Gr N i t l P)(hw:Cq key=0):
  ((Hm t key).2.2=0∧(Hm t key).2.1=isK l key∧∃P',Gr N i (Hm t key).1 (Cm l key).1 P')∨
  ((Hm t key).2.2=190∧(Hm t key).2.1=false∧t.s.free<4*t.height+1∧(Hm t key).1.s.free=t.s.free∧Gr N i (Hm t key).1 l P):=by
 have e:Hm t key=(Dl t (C4 t key).1 (C4 t key).2.2,(C4 t key).2.1 && decide ((C4 t key).2.2=0),(C4 t key).2.2):=by unfold Hm;rw[if_neg (fun q=>q hw)]
 have hkp:=AaZ t key
 rw[e]
 rcases X8 h.ok key with ⟨h1,h1',P',h2,h3⟩|⟨h1,h2⟩
 ·refine .inl ⟨h1,by simp[h1,h1'],P',?_⟩
  show Gr N i (Dl t (C4 t key).1 (C4 t key).2.2) _ _
  unfold Dl
  rw[if_pos h1]
  refine⟨h2,h.on.mv h3,?_,fun x hx=>h.kv x (H6 hx),by rw[hkp.len];exact h.kn⟩
  have:=Aae l key
  have:=h.ln
  omega
 ·obtain⟨g1,g2⟩:=h.back hkp
  refine .inr ⟨h1,by simp[h1],h2,?_,?_⟩
  ·show(Dl t (C4 t key).1 (C4 t key).2.2).s.free=_
   unfold Dl
   rw[if_neg (by rw[h1];decide)]
   exact g2
  ·show Gr N i (Dl t (C4 t key).1 (C4 t key).2.2) _ _
   unfold Dl
   rw[if_neg (by rw[h1];decide)]
   exact g1
def XF(h:Pgr.Good s):Pgr.Good s.fin:=by
 have hl:s.fin.kinds.length=s.kinds.length:=by simp[PD.fin,PD.done,PD.flush]
 have hs:s.fin.syn.length=s.syn.length:=FI _ _;refine⟨by rw[hl];exact h.one,by rw[hl];exact h.len,by rw[hl,hs];exact h.inn,by rw[hs];exact h.syn,fun i=>?_⟩
 rcases AaK h (i:=i) with q|q<;>rw[q]<;>decide
def M6{k:Int}:A6 s.fin k↔A6 s k:=by
 unfold A6;rw[Rs];unfold Fk;constructor
 ·intro q;by_cases h3:s.kind k=3
  ·rw[if_pos h3] at q;omega
  ·rw[if_neg h3] at q;by_cases h1:s.kind k=1
   ·exact .inl h1
   ·rw[if_neg h1] at q;exact q
 ·rintro(q|q)<;>rw[q]<;>decide
def At.fin(hG:Pgr.Good s){k:Int}{n:Ax}(h:At s k n):At s.fin k n:=⟨M6.2 h.liv,by rw[Pb hG];exact h.byt,h.rgt⟩
def FV.fin(hG:Pgr.Good s){b}{l:List Int}(h:FV s b l):FV s.fin b l:=
 ⟨h.len,h.rng,fun j hj=>M6.2 (h.live j hj),fun j hj=>by rw[Pb hG];exact h.pg j hj⟩
def Lf.fin(hG:Pgr.Good s):∀{ks vs l}{P:List Int},Lf s ks vs l P→Lf s.fin ks vs l P
 |[],[],l,P,h=>by rw[Lf] at h⊢;exact h
 |[],_::_,l,P,h=>by rw[Lf] at h<;>simp_all
 |_::_,[],l,P,h=>by rw[Lf] at h<;>simp_all
 |k::ks,c::cs,l,P,h=>by
  rw[Lf] at h⊢;obtain⟨v,l',P1,P2,rfl,rfl,h1,h2⟩:=h;refine⟨v,l',P1,P2,Z,Z,?_,h2.fin hG⟩
  rcases h1 with h1|⟨q1,q2,q3,q4⟩
  ·exact .inl h1
  ·exact .inr ⟨q1,q2,FV.fin hG q3,q4⟩
def Tr.fin(hG:Pgr.Good s):∀{h:Nat}{k:Int}{l}{P:List Int},Tr s h k l P→Tr s.fin h k l P
 |0,k,l,P,h=>h.elim
 |h+1,k,l,P,⟨n,Q,h1,h2,e,h3⟩=>by
  refine⟨n,Q,At.fin hG h1,h2,e,?_⟩
  by_cases e:h=0
  ·rw[decide_eq_true e] at h3⊢;exact .mkl h3.leaf.1 (h3.leaf.2.fin hG)
  ·rw[decide_eq_false e] at h3⊢;exact .mki h3.inner.1 (h3.inner.2.mono (fun c l P _ q=>Tr.fin hG q))
def Gr.fin(h:Gr N i t l P):Gr N i {t with s:=t.s.fin} l P:=
 ⟨⟨XF h.ok.gd,h.ok.nd,h.ok.ct,by
  rcases h.ok.tr with e|⟨x,e,ht⟩
  ·exact .inl e
  ·exact .inr ⟨x,e,ht.fin h.ok.gd⟩⟩,fun k=>M6.trans (h.on k),h.ln,h.kv,by show t.s.fin.kinds.length=N;rw[←h.kn];simp[PD.fin,PD.done,PD.flush]⟩
def Tok.EB(h:Tok t l P)(hw:Cq key=0):Dk t key=((EY l key).1,(EY l key).2,0):=by
 unfold Dk;rw[if_neg (fun q=>q hw)];exact h.get key
def Vw{R:RT}(hR:∀c l P,R c l P→KO (l.map Prod.fst)):∀{ks}{cs:List Int}{l}{P:List Int},Kd R ks cs l P→KO (l.map Prod.fst)
 |[],[c],l,P,h=>hR c l P h
 |[],[],l,P,h=>h.elim
 |[],_::_::_,l,P,h=>h.elim
 |_::_,[],l,P,h=>h.elim
 |k::ks,c::cs,l,P,h=>by
  obtain⟨l1,l2,P1,P2,rfl,rfl,h1,h2,h3,h4⟩:=Kd.cons.1 h;rw[Adl];refine KO.app.2 ⟨hR _ _ _ h1,Vw hR h4,fun x hx y hy=>?_⟩;obtain⟨x',hx',rfl⟩:=Aft.1 hx;obtain⟨y',hy',rfl⟩:=Aft.1 hy;exact G6 (h2 x' hx') (h3 y' hy')
def QT:∀{h:Nat}{s}{k:Int}{l}{P:List Int},Tr s h k l P→KO (l.map Prod.fst)
 |0,s,k,l,P,h=>h.elim
 |h+1,s,k,l,P,⟨n,Q,hat,hne,eP,hn⟩=>by
  by_cases e:h=0
  ·rw[decide_eq_true e] at hn;obtain⟨n1,n2⟩:=hn.leaf;have hs:=hat.sound;rw[C0 hs n1] at hs;rw[←n2.keys];exact(B6.1 hs).1
  ·rw[decide_eq_false e] at hn;exact Vw (fun c l P q=>QT q) hn.inner.2
def Tok.asc(h:Tok t l P):KO (l.map Prod.fst):=by
 rcases h.tr with ⟨_,_,rfl,_⟩|⟨x,_,e⟩
 ·exact KO.nil
 ·exact QT e
def get_mem(h:KO (l.map Prod.fst))(hx:x∈l):EY l x.1=(x.2,true)∧isK l x.1=true:=by
 obtain⟨a,b,rfl⟩:=List.append_of_mem hx;rw[show a++x::b=a++[x]++b by simp] at h⊢;rw[Adl,Adl] at h;obtain⟨h1,h2,h3⟩:=KO.app.1 h;obtain⟨h4,h5,h6⟩:=KO.app.1 h1;have ha:∀y∈a,Lt y.1 x.1:=fun y hy=>h6 _ (Aea hy) _ (by simp);have hb:∀y∈b,Lt x.1 y.1:=fun y hy=>h3 _ (by simp) _ (Aea hy);rw[MW ha hb,Em ha hb];exact⟨QM,HA⟩
def Tok.Abz(h:Tok t l P)(hx:x∈l):Cq x.1=0:=by
 have:=h.asc.1 x.1 (Aea hx);unfold Cq;rw[if_neg (by omega)]
def Tok.has(h:Tok t l P):Hg t l=true:=by
 unfold Hg;rw[h.ct];simp only[decide_true,Bool.and_true,List.all_eq_true];intro x hx;unfold Jp;rw[h.EB (h.Abz hx),(get_mem h.asc hx).1];simp
section
structure WR where
 out:List KV
 tc:Nat
 on:Bool
 e:Int
def EV(s:PD)(most:Int)(key c:List UInt8)(out:List KV)(tc:Nat):WR:=
 let v:=BU s c
 let o:=if v.2=0 then out++[(key,v.1)] else out
 ⟨o,tc+Dn c,decide ((o.length:Int)<most),v.2⟩
def Hk(p:Option (List UInt8))(to:List UInt8):Bool:=match p with|none=>false|some k=> !to.isEmpty && !Op.bytesLess k to
def DJ(s:PD)(most:Int)(to:List UInt8):List (List UInt8)→List (List UInt8)→List KV→Nat→WR
 |k::ks,c::cs,out,tc=>if Hk (some k) to=true then⟨out,tc,false,0⟩ else
  let r:=EV s most k c out tc
  if r.e≠0∨r.on=false then⟨r.out,r.tc,false,r.e⟩ else DJ s most to ks cs r.out r.tc
 |_,_,out,tc=>⟨out,tc,true,0⟩
def Eg(rec:Int→List KV→Nat→WR)(to:List UInt8):Option (List UInt8)→List (List UInt8)→List Int→List KV→Nat→WR
 |_,_,[],out,tc=>⟨out,tc,true,0⟩
 |p,ks,c::cs,out,tc=>if Hk p to=true then⟨out,tc,false,0⟩ else
  let r:=rec c out tc
  if r.e≠0∨r.on=false then⟨r.out,r.tc,false,r.e⟩ else Eg rec to ks.head? ks.tail cs r.out r.tc
def C6(n:Ax)(fr:List UInt8):Nat:=if fr=[] then 0 else(findD n fr).1
def B3(s:PD)(most:Int)(fr to:List UInt8):Nat→Int→List KV→Nat→WR
 |0,_,out,tc=>⟨out,tc,false,200⟩
 |h+1,page,out,tc=>
  let r:=AN s page (h+1:Nat)
  if r.2≠0 then⟨out,tc,false,r.2⟩ else
  let i:=C6 r.1 fr
  if h=0 then DJ s most to (r.1.keys.drop i) (r.1.vals.drop i) out (tc+1)
  else Eg (B3 s most fr to h) to (if i=0 then none else r.1.keys[i - 1]?) (r.1.keys.drop i) (r.1.kids.drop i) out (tc+1)
def inR(fr to:List UInt8)(x:KV):Bool:= !Op.bytesLess x.1 fr &&(to.isEmpty||Op.bytesLess x.1 to)
def Bl(fr to:List UInt8)(m:Nat)(l:List KV):List KV:=(l.filter (inR fr to)).take m
def cpL(l:List KV):Nat:=(l.map fun x=>if 15<x.2.length then AM x.2.length else 0).sum
def Ta(a b:List KV):cpL (a++b)=cpL a+cpL b:=by simp[cpL]
section
variable {fr to:List UInt8}
def SW{m:Nat}:Bl fr to m []=[]:=by simp[Bl]
def Sa{m:Nat}{l}(h:∀x∈l,inR fr to x=false):Bl fr to m l=[]:=by
 unfold Bl;rw[Agv.2 (fun x hx=>by rw[h x hx];decide)];simp
def Q9{m:Nat}{a b}(h:(Bl fr to m a).length=m):Bl fr to m (a++b)=Bl fr to m a:=by
 unfold Bl at h⊢;rw[Agy];rw[Acs] at h;rw[List.take_append_of_le_length (by omega)]
def RG{m:Nat}{a b}(h:∀x∈b,inR fr to x=false):Bl fr to m (a++b)=Bl fr to m a:=by
 unfold Bl;have e:b.filter (inR fr to)=[]:=Agv.2 (fun x hx=>by rw[h x hx];decide);rw[Agy,e,Adm]
def RZ{m:Nat}{a b}(h:(Bl fr to m a).length<m):Bl fr to m (a++b)=Bl fr to m a++Bl fr to (m - (Bl fr to m a).length) b:=by
 unfold Bl at h⊢;rw[Acs] at h⊢;have hl:(a.filter (inR fr to)).length<m:=by omega
 rw[Agy,List.take_append,List.take_of_length_le (by omega)];congr 2;omega
def Sh{m:Nat}{l}(h:inR fr to x=true):Bl fr to (m+1) (x::l)=x::Bl fr to m l:=by
 unfold Bl;rw[List.filter_cons_of_pos h,Agu]
def Rest(fr to:List UInt8)(m:Nat)(l:List KV)(n:Nat):Prop:=n=m∨(to≠[]∧∃x∈l,¬Lt x.1 to)
def Om(h0:to≠[])(h:¬Lt x.1 to):inR fr to x=false:=by
 unfold inR;have h1:Op.bytesLess x.1 to=false:=by simpa [Lt] using h
 cases to with
 |nil=>exact absurd Z h0
 |cons a t=>rw[h1];simp
def Xz{m:Nat}{a b}(hk:KO ((a++b).map Prod.fst))(h:Rest fr to m a (Bl fr to m a).length):Bl fr to m (a++b)=Bl fr to m a:=by
 rcases h with h|⟨h0,x,hx,hn⟩
 ·exact Q9 h
 ·refine RG fun y hy=>Om h0 fun q=>hn ?_;rw[Adl] at hk;exact EG ((KO.app.1 hk).2.2 x.1 (Aea hx) y.1 (Aea hy)) q
end
structure WOk (fr to:List UInt8) (M:Nat) (f:Bool) (h:Nat) (l:List KV) (out:List KV) (tc:Nat) (r:WR):Prop where
 e0:r.e=0
 ou:r.out=out++Bl fr to (M - out.length) l
 yes:r.on=true→r.out.length<M∧(f=true→1≤(Bl fr to (M - out.length) l).length)
 no:r.on=false→Rest fr to (M - out.length) l (Bl fr to (M - out.length) l).length
 tc:∃n,r.tc=tc+n+cpL (Bl fr to (M - out.length) l)∧n≤h*((Bl fr to (M - out.length) l).length+(if f=true then 0 else 1)+(if r.on=true then 0 else 1))
section
variable {s:PD}{fr to:List UInt8}{M:Nat}
def F0{k}:Hk (some k) to=true↔to≠[]∧¬Lt k to:=by
 unfold Hk Lt;cases to<;>simp
def PA:∀{ks vs l}{P:List Int}{out}{tc:Nat},Lf s ks vs l P→(∀x∈l,¬Lt x.1 fr)→KO (l.map Prod.fst)→out.length<M→
  (DJ s M to ks vs out tc).e=0∧(DJ s M to ks vs out tc).out=out++Bl fr to (M - out.length) l∧
  ((DJ s M to ks vs out tc).on=true→(DJ s M to ks vs out tc).out.length<M∧(Bl fr to (M - out.length) l).length=l.length)∧
  ((DJ s M to ks vs out tc).on=false→Rest fr to (M - out.length) l (Bl fr to (M - out.length) l).length)∧
  (DJ s M to ks vs out tc).tc=tc+cpL (Bl fr to (M - out.length) l)
 |[],[],l,P,out,tc,h,_,_,ho=>by
  rw[Lf] at h;obtain⟨rfl,rfl⟩:=h;rw[DJ,SW,Adm]
  ·exact⟨Z,Z,fun _=>⟨ho,Z⟩,(by simp),by simp[cpL]⟩
  ·simp
 |[],_::_,l,P,out,tc,h,_,_,_=>by rw[Lf] at h<;>simp_all
 |_::_,[],l,P,out,tc,h,_,_,_=>by rw[Lf] at h<;>simp_all
 |k::ks,c::cs,l,P,out,tc,h,hf,hk,ho=>by
  rw[Lf] at h;obtain⟨v,l',P1,P2,rfl,rfl,hc,h2⟩:=h;rw[List.map_cons,KO.cons] at hk;obtain⟨m,hm⟩:∃m,M - out.length=m+1:=⟨M - out.length - 1,by omega⟩
  rw[DJ];by_cases hs:Hk (some k) to=true
  ·rw[if_pos hs];obtain⟨q1,q2⟩:=F0.1 hs;have hn:Bl fr to (M - out.length) ((k,v)::l')=[]:=Sa fun x hx=>by
    rcases Acw.1 hx with rfl|hx
    ·exact Om q1 q2
    ·exact Om q1 fun q=>q2 (EG (hk.2.2 x.1 (Aea hx)) q)
   rw[hn,Adm];exact⟨Z,Z,(by simp),fun _=>.inr ⟨q1,(k,v),Acm ..,q2⟩,by simp[cpL]⟩
  ·rw[if_neg hs];have hin:inR fr to (k,v)=true:=by
    have h1:Op.bytesLess k fr=false:=by simpa [Lt] using hf (k,v) (Acm ..)
    have h2:¬(to≠[]∧¬Lt k to):=fun q=>hs (F0.2 q);unfold inR;rw[h1];cases to with
    |nil=>rfl
    |cons a t=>
     have:Op.bytesLess k (a::t)=true:=Decidable.byContradiction fun q=>h2 ⟨by simp,q⟩
     simp[this]
   have ht:EV s M k c out tc=⟨out++[(k,v)],tc+Dn c,decide (((out++[(k,v)]).length:Int)<M),0⟩:=by
    unfold EV;rw[hc.val];rfl
   have hsel:Bl fr to (M - out.length) ((k,v)::l')=(k,v)::Bl fr to m l':=by rw[hm];exact Sh hin
   have hcp:cpL ((k,v)::Bl fr to m l')=Dn c+cpL (Bl fr to m l'):=by
    rw[hc.Dn];simp[cpL]
   rw[ht];simp only;by_cases hon:(((out++[(k,v)]).length:Nat):Int)<M
   ·rw[decide_eq_true hon,if_neg (by simp)];have hl1:(out++[(k,v)]).length<M:=by omega
    have e:M - (out++[(k,v)]).length=m:=by rw[Aci,Afa];omega
    obtain⟨i1,i2,i3,i4,i5⟩:=PA (tc:=tc+Dn c) h2 (fun x hx=>hf x (Aco _ hx)) hk.2.1 hl1;rw[e] at i2 i3 i4 i5;rw[hsel,hcp];refine⟨i1,by rw[i2];simp,fun q=>⟨(i3 q).1,by rw[Acx,Acx,(i3 q).2]⟩,fun q=>?_,by rw[i5];omega⟩
    rcases i4 q with r|⟨r,x,hx,hy⟩
    ·exact .inl (by rw[Acx,r,hm])
    ·exact .inr ⟨r,x,Aco _ hx,hy⟩
   ·rw[decide_eq_false hon,if_pos (by simp)];have e:m=0:=by rw[Aci,Afa] at hon;omega
    subst e;have e2:Bl fr to 0 l'=[]:=by simp[Bl]
    rw[hsel,hcp,e2];exact⟨Z,Z,(by simp),fun _=>.inl (by rw[hm];rfl),by simp[cpL]⟩
def PS{h:Nat}(ih:∀{k:Int}{l}{P:List Int}{out}{tc:Nat}{f:Bool},Tr s h k l P→(f=true→∀x∈l,¬Lt x.1 fr)→out.length<M→WOk fr to M f h l out tc (B3 s M fr to h k out tc)):
  ∀{ks}{cs:List Int}{l}{P:List Int}{p:Option (List UInt8)}{f:Bool}{out}{tc:Nat},Kd (Tr s h) ks cs l P→(∀k,p=some k→∀x∈l,¬Lt x.1 k)→(f=true→∀x∈l,¬Lt x.1 fr)→(∀k∈ks,¬Lt k fr)→KO (l.map Prod.fst)→out.length<M→
   WOk fr to M f h l out tc (Eg (B3 s M fr to h) to p ks cs out tc)
 |_,[],l,P,p,f,out,tc,hkd,_,_,_,_,_=>by
  have:=hkd.len;cases this
 |ks,c::cs,l,P,p,f,out,tc,hkd,hp,hf,hks,hko,ho=>by
  rw[Eg];have hne:l≠[]:=(Kd.btw (fun c l P q=>Tr.ne q) hkd).1;by_cases hs:Hk p to=true
  ·rw[if_pos hs];obtain⟨k,rfl⟩:∃k,p=some k:=by
    cases p with
    |none=>cases hs
    |some k=>exact⟨k,Z⟩
   obtain⟨q1,q2⟩:=F0.1 hs;have hout:∀x∈l,¬Lt x.1 to:=fun x hx=>YU q2 (hp k Z x hx);have hn:Bl fr to (M - out.length) l=[]:=Sa fun x hx=>Om q1 (hout x hx);obtain⟨x,hx⟩:=List.exists_mem_of_ne_nil l hne;refine⟨Z,by rw[hn,Adm],(by simp),fun _=>.inr ⟨q1,x,hx,hout x hx⟩,0,by rw[hn];simp[cpL],Adf _⟩
  rw[if_neg hs];obtain⟨l1,l2,P1,hl,h1,hrest⟩:∃l1 l2 P1,l=l1++l2∧Tr s h c l1 P1∧((cs=[]∧l2=[])∨∃k ks' P2,ks=k::ks'∧(∀x∈l2,¬Lt x.1 k)∧Kd (Tr s h) ks' cs l2 P2):=by
   cases ks with
   |nil=>
    cases cs with
    |nil=>exact⟨l,[],P,by simp,hkd,.inl ⟨Z,Z⟩⟩
    |cons c2 cs=>exact hkd.elim
   |cons k ks=>
    obtain⟨l1,l2,P1,P2,e1,_,g1,g2,g3,g4⟩:=Kd.cons.1 hkd
    exact⟨l1,l2,P1,e1,g1,.inr ⟨k,ks,P2,Z,g3,g4⟩⟩
  subst hl;have hko1:KO (l1.map Prod.fst):=by rw[Adl] at hko;exact(KO.app.1 hko).1
  have hko2:KO (l2.map Prod.fst):=by rw[Adl] at hko;exact(KO.app.1 hko).2.1
  have w:=ih (tc:=tc) (f:=f) h1 (fun q x hx=>hf q x (Ada _ hx)) ho;generalize B3 s M fr to h c out tc=r at w⊢;obtain⟨w1,w2,w3,w4,n,w5,w6⟩:=w;simp only;by_cases hon:r.on=true
  ·rw[if_neg (by rw[w1,hon];simp)];obtain⟨y1,y2⟩:=w3 hon;have hlen:r.out.length=out.length+(Bl fr to (M - out.length) l1).length:=by rw[w2,Aci]
   have hlt:(Bl fr to (M - out.length) l1).length<M - out.length:=by omega
   have hsel:=RZ (b:=l2) hlt;have em:M - out.length - (Bl fr to (M - out.length) l1).length=M - r.out.length:=by omega
   rw[em] at hsel;rw[if_pos hon] at w6;rcases hrest with ⟨rfl,rfl⟩|⟨k,ks',P2,rfl,g1,g2⟩
   ·rw[Eg];rw[Adm];refine⟨Z,w2,fun _=>⟨y1,y2⟩,(by simp),n,w5,?_⟩
    rw[if_pos Z];exact w6
   ·have hk0:=hks k (Acm ..);have x:=PS ih (p:=some k) (f:=true) (tc:=r.tc) g2 (fun k' e x hx=>by cases e;exact g1 x hx) (fun _ x hx=>YU hk0 (g1 x hx)) (fun k' hk'=>hks k' (Aco _ hk')) hko2 y1;rw[List.head?_cons,List.tail_cons];generalize Eg (B3 s M fr to h) to (some k) ks' cs r.out r.tc=u at x⊢;obtain⟨x1,x2,x3,x4,n2,x5,x6⟩:=x;have hl3:(Bl fr to (M - out.length) (l1++l2)).length=(Bl fr to (M - out.length) l1).length+(Bl fr to (M - r.out.length) l2).length:=by rw[hsel,Aci]
    refine⟨x1,by rw[x2,hsel,←Ace,←w2],fun q=>⟨(x3 q).1,fun hq=>by rw[hl3];have:=y2 hq;omega⟩,fun q=>?_,n+n2,?_,?_⟩
    ·rcases x4 q with z|⟨z,a,ha,hb⟩
     ·exact .inl (by rw[hl3,z];omega)
     ·exact .inr ⟨z,a,Acy _ ha,hb⟩
    ·rw[x5,w5,hsel,Ta];omega
    ·rw[if_pos Z] at x6;rw[hl3];have:n+n2≤h*((Bl fr to (M - out.length) l1).length+(if f=true then 0 else 1)+0)+h*((Bl fr to (M - r.out.length) l2).length+0+(if u.on=true then 0 else 1)):=Nat.add_le_add w6 x6;rw[←Nat.mul_add] at this;refine Aeq this (Ahl _ ?_);omega
  ·have hof:r.on=false:=by simpa using hon
   rw[if_pos (.inr hof)];have hr:=w4 hof;have hsel:Bl fr to (M - out.length) (l1++l2)=Bl fr to (M - out.length) l1:=Xz hko hr;rw[if_neg hon] at w6;refine⟨w1,by rw[hsel];exact w2,(by simp),fun _=>?_,n,by rw[hsel];exact w5,?_⟩
   ·rw[hsel];rcases hr with z|⟨z,a,ha,hb⟩
    ·exact .inl z
    ·exact .inr ⟨z,a,Ada _ ha,hb⟩
   ·rw[hsel];exact w6
end
def drop_left{α}(a b:List α):(a++b).drop a.length=b:=by rw[List.drop_append_of_le_length (Acj _),Afb,Adr]
def TI{s fr to}{M:Nat}:∀(h:Nat) {k:Int}{l}{P:List Int}{out}{tc:Nat}{f:Bool},Tr s h k l P→(f=true→∀x∈l,¬Lt x.1 fr)→out.length<M→WOk fr to M f h l out tc (B3 s M fr to h k out tc)
 |0,k,l,P,out,tc,f,ht,_,_=>ht.elim
 |h+1,k,l,P,out,tc,f,ht,hf,ho=>by
  have hasc:=QT ht;have hlne:=ht.ne;obtain⟨n,Q,hat,hne,eP,hn⟩:=ht;subst eP;have hsf:∀x:List UInt8,¬Lt x []:=fun x q=>by cases x<;>simp[Lt,Op.bytesLess] at q
  cases h with
  |zero=>
   rw[decide_eq_true Z] at hn
   obtain⟨n1,n2⟩:=hn.leaf
   have ef:=C0 hat.sound n1
   obtain⟨ks,vs,rfl⟩:∃ks vs,n=⟨true,ks,vs,[]⟩:=⟨_,_,ef⟩
   simp only at n2 hne
   obtain⟨hko,hvl,hv16⟩:=B6.1 hat.sound
   have hlv:=hat.level (x:=((0+1:Nat):Int)) Z
   rw[B3,hlv]
   dsimp only
   rw[if_neg (by simp),if_pos Z]
   obtain⟨a,b,rfl,hi,ha,hb⟩:∃a b,ks=a++b∧C6 ⟨true,ks,vs,[]⟩ fr=a.length∧(∀x∈a,Lt x fr)∧∀x∈b,¬Lt x fr:=by
    unfold C6;by_cases h0:fr=[]
    ·rw[if_pos h0];exact⟨[],ks,Z,Z,fun x hx=>(by cases hx),fun x _=>by rw[h0];exact hsf x⟩
    ·rw[if_neg h0];rcases Io hko (vs:=vs) fr with ⟨a,b,e,q,r1,r2⟩|⟨a,b,e,q,r1,r2⟩
     ·refine⟨a,fr::b,e,by rw[q],r1,fun x hx=>?_⟩
      rcases Acw.1 hx with rfl|hx
      ·exact H8
      ·exact Jn (r2 x hx)
     ·exact⟨a,b,e,by rw[q],r1,fun x hx=>Jn (r2 x hx)⟩
   rw[hi]
   obtain⟨va,vb,rfl,hva⟩:∃va vb,vs=va++vb∧va.length=a.length:=⟨vs.take a.length,vs.drop a.length,(Afj ..).symm,by rw[Acs,hvl,Aci];omega⟩
   rw[drop_left a b,←hva,drop_left va vb]
   obtain⟨l1,l2,P1,P2,rfl,rfl,g1,g2⟩:=Lf.split n2 hva
   have hl1:∀x∈l1,Lt x.1 fr:=fun x hx=>ha _ (by rw[g1.keys];exact Aea hx)
   have hl2:∀x∈l2,¬Lt x.1 fr:=fun x hx=>hb _ (by rw[g2.keys];exact Aea hx)
   have hko2:KO (l2.map Prod.fst):=by rw[Adl] at hasc;exact(KO.app.1 hasc).2.1
   have hno:∀x∈l1,inR fr to x=false:=fun x hx=>by unfold inR;rw[show Op.bytesLess x.1 fr=true from hl1 x hx];rfl
   have hsel:Bl fr to (M - out.length) (l1++l2)=Bl fr to (M - out.length) l2:=by
    unfold Bl;rw[Agy,Agv.2 (fun x hx=>by rw[hno x hx];decide),Adr]
   obtain⟨i1,i2,i3,i4,i5⟩:=PA (to:=to) (tc:=tc+1) g2 hl2 hko2 ho
   refine⟨i1,by rw[hsel];exact i2,fun q=>⟨(i3 q).1,fun hq=>?_⟩,fun q=>?_,1,by rw[hsel,i5],?_⟩
   ·rw[hsel,(i3 q).2]
    have:l1=[]:=by
     cases l1 with
     |nil=>rfl
     |cons x l1=>exact absurd (hl1 x (Acm ..)) (hf hq x (Ada _ (Acm ..)))
    subst this
    rw[Adr] at hlne
    exact Fx.1 hlne
   ·rw[hsel]
    rcases i4 q with z|⟨z,x,hx,hy⟩
    ·exact .inl z
    ·exact .inr ⟨z,x,Acy _ hx,hy⟩
   ·rw[hsel,Nat.zero_add,Nat.one_mul]
    by_cases hq:f=true
    ·rw[if_pos hq]
     by_cases ho2:(DJ s M to b vb out (tc+1)).on=true
     ·rw[if_pos ho2,(i3 ho2).2]
      have:l1=[]:=by
       cases l1 with
       |nil=>rfl
       |cons x l1=>exact absurd (hl1 x (Acm ..)) (hf hq x (Ada _ (Acm ..)))
      subst this
      rw[Adr] at hlne
      have:=Fx.1 hlne
      omega
     ·rw[if_neg ho2];omega
    ·rw[if_neg hq];omega
  |succ h=>
   rw[decide_eq_false (Aef _)] at hn
   obtain⟨n1,n2⟩:=hn.inner
   have ef:=DI hat.sound n1
   obtain⟨ks,cs,rfl⟩:∃ks cs,n=⟨false,ks,[],cs⟩:=⟨_,_,ef⟩
   simp only at n2 hne
   obtain⟨hko,hcl,hrng⟩:=BF.1 hat.sound
   have hlv:=hat.level (x:=((h+1+1:Nat):Int)) (by show false=_;exact(decide_eq_false (by omega)).symm)
   rw[B3,hlv]
   dsimp only
   rw[if_neg (by simp),if_neg (Aef _)]
   obtain⟨a,b,rfl,hi,ha,hb,hz⟩:∃a b,ks=a++b∧C6 ⟨false,ks,[],cs⟩ fr=a.length∧(∀x∈a,¬Lt fr x)∧(∀x∈b,¬Lt x fr)∧(fr=[]→a=[]):=by
    unfold C6;by_cases h0:fr=[]
    ·rw[if_pos h0];exact⟨[],ks,Z,Z,fun x hx=>(by cases hx),fun x _=>by rw[h0];exact hsf x,fun _=>Z⟩
    ·rw[if_neg h0];obtain⟨a,b,e,q,r1,r2⟩:=Hl hat.sound fr;exact⟨a,b,e,by rw[q],r1,fun x hx=>Jn (r2 x hx),fun q=>absurd q h0⟩
   rw[hi]
   obtain⟨ca,cb,rfl,hca⟩:∃ca cb,cs=ca++cb∧ca.length=a.length:=⟨cs.take a.length,cs.drop a.length,(Afj ..).symm,by rw[Acs,hcl,Aci];omega⟩
   have hcbl:cb.length=b.length+1:=by rw[Aci,Aci] at hcl;omega
   rw[drop_left a b,←hca,drop_left ca cb]
   obtain⟨l1,l2,P2,hl,hl1,g2,hp⟩:∃l1 l2 P2,l=l1++l2∧(∀x∈l1,Lt x.1 fr)∧Kd (Tr s (h+1)) b cb l2 P2∧∀k,(if ca.length=0 then none else(a++b)[ca.length - 1]?)=some k→∀x∈l2,¬Lt x.1 k:=by
    have n2':Kd (Tr s (h+1)) (a++b++[]) (ca++cb++[]) l Q:=by simpa using n2
    obtain⟨l1,m,l2,P1,Pm,P2,rfl,rfl,g1,g2,g3,g4,g5⟩:=n2'.focus (by simpa using hko) hca hcbl;rcases g3 with ⟨_,_,rfl,rfl⟩|⟨k,ks',e,_⟩
    ·refine⟨l1,m,Pm,by simp,fun x hx=>?_,g2,fun k hk x hx=>?_⟩
     ·obtain⟨p,p1,p2⟩:=g1.below x hx;exact G6 p2 (ha p p1)
     ·by_cases h0:ca.length=0
      ·rw[if_pos h0] at hk;cases hk
      ·rw[if_neg h0,List.getElem?_append_left (by omega)] at hk;exact g4 k (List.mem_of_getElem? hk) x hx
    ·cases e
   subst hl
   have hko2:KO (l2.map Prod.fst):=by rw[Adl] at hasc;exact(KO.app.1 hasc).2.1
   have hno:∀x∈l1,inR fr to x=false:=fun x hx=>by unfold inR;rw[show Op.bytesLess x.1 fr=true from hl1 x hx];rfl
   have hsel:Bl fr to (M - out.length) (l1++l2)=Bl fr to (M - out.length) l2:=by
    unfold Bl;rw[Agy,Agv.2 (fun x hx=>by rw[hno x hx];decide),Adr]
   have w:=PS (to:=to) (h:=h+1) (fun{k l P out tc f} q1 q2 q3=>TI (h+1) q1 q2 q3) (f:=f) (tc:=tc+1) g2 hp (fun q x hx=>hf q x (Acy _ hx)) hb hko2 ho
   generalize Eg (B3 s M fr to (h+1)) to (if ca.length=0 then none else(a++b)[ca.length - 1]?) b cb out (tc+1)=r at w⊢
   obtain⟨w1,w2,w3,w4,n,w5,w6⟩:=w
   refine⟨w1,by rw[hsel];exact w2,fun q=>by rw[hsel];exact w3 q,fun q=>?_,n+1,by rw[hsel,w5];omega,?_⟩
   ·rw[hsel]
    rcases w4 q with z|⟨z,x,hx,hy⟩
    ·exact .inl z
    ·exact .inr ⟨z,x,Acy _ hx,hy⟩
   ·rw[hsel,Nat.succ_mul]
    have:1≤(Bl fr to (M - out.length) l2).length+(if f=true then 0 else 1)+(if r.on=true then 0 else 1):=by
     by_cases hq:f=true
     ·by_cases ho2:r.on=true
      ·have:=(w3 ho2).2 hq;omega
      ·rw[if_neg ho2];omega
     ·rw[if_neg hq];omega
    omega
end
section
def FE(S:List Int):List Int→List Int×Bool
 |[]=>(S,true)
 |k::l=>if k∈S then(S,false) else FE (k::S) l
def Dw(s:PD)(S:List Int)(c:List UInt8):List Int×Int:=
 if inB c=true then(S,0)
 else if EK c=true∧15<DL c then
  ((FE S (Bq s (EJ c) (DL c)).1).1,if (FE S (Bq s (EJ c) (DL c)).1).2=true then(Bq s (EJ c) (DL c)).2.2 else 200)
 else(S,200)
structure CR where
 S:List Int
 n:Nat
 e:Int
def F5(fr to k:List UInt8):Bool:=Op.bytesLess k fr||(!to.isEmpty && !Op.bytesLess k to)
def Hw(s:PD)(fr to:List UInt8):List (List UInt8)→List (List UInt8)→List Int→Nat→CR
 |k::ks,c::cs,S,n=>if F5 fr to k=true then⟨S,n,200⟩ else if (Dw s S c).2≠0 then⟨S,n,(Dw s S c).2⟩ else Hw s fr to ks cs (Dw s S c).1 (n+1)
 |_,_,S,n=>⟨S,n,0⟩
def FZ(rec:Int→List UInt8→List UInt8→List Int→Nat→CR)(lo to:List UInt8):List (List UInt8)→List Int→List Int→Nat→CR
 |_,[],S,n=>⟨S,n,0⟩
 |ks,c::cs,S,n=>if (rec c lo (ks.headD to) S n).e≠0 then rec c lo (ks.headD to) S n else FZ rec (ks.headD to) to ks.tail cs (rec c lo (ks.headD to) S n).S (rec c lo (ks.headD to) S n).n
def Cb(s:PD):Nat→Int→Int→List UInt8→List UInt8→List Int→Nat→CR
 |0,_,_,_,_,S,n=>⟨S,n,99999⟩
 |g+1,page,h,fr,to,S,n=>
  if (AN s page h).2≠0 then⟨S,n,(AN s page h).2⟩
  else if page∈S∨(AN s page h).1.keys=[] then⟨S,n,200⟩
  else if (AN s page h).1.leaf=true then Hw s fr to (AN s page h).1.keys (AN s page h).1.vals (page::S) n
  else if (AN s page h).1.keys.any (F5 fr to)=true then⟨page::S,n,200⟩
  else FZ (fun c lo hi S n=>Cb s g c (h - 1) lo hi S n) fr to (AN s page h).1.keys (AN s page h).1.kids (page::S) n
def HP(g:Nat)(t:TD):Int:=
 if t.height=0 then(if (0:Int)≠t.count then 200 else 0)
 else if (Cb t.s g t.root t.height [] [] [] 0).e≠0 then(Cb t.s g t.root t.height [] [] [] 0).e
 else if ((Cb t.s g t.root t.height [] [] [] 0).n:Int)≠t.count then 200 else 0
def Td:∀{l S:List Int},l.Nodup→(∀p∈l,p∉S)→(FE S l).2=true∧∀p,p∈(FE S l).1↔p∈l∨p∈S
 |[],S,_,_=>⟨Z,fun p=>by simp[FE]⟩
 |k::l,S,hn,hd=>by
  obtain⟨n1,n2⟩:=Afn.1 hn;rw[FE,if_neg (hd k (Acm ..))];obtain⟨h1,h2⟩:=Td (S:=k::S) n2 (fun p hp q=>by
   rcases Acw.1 q with rfl|q
   ·exact n1 hp
   ·exact hd p (Aco _ hp) q)
  refine⟨h1,fun p=>?_⟩
  rw[h2,Acw,Acw];constructor
  ·rintro(q|q|q)
   ·exact .inl (.inr q)
   ·exact .inl (.inl q)
   ·exact .inr q
  ·rintro((q|q)|q)
   ·exact .inr (.inl q)
   ·exact .inl q
   ·exact .inr (.inr q)
section
variable {s:PD}
def Yh{c v}{P S:List Int}(h:Ce s c v P)(hn:P.Nodup)(hd:∀p∈P,p∉S):(Dw s S c).2=0∧∀p,p∈(Dw s S c).1↔p∈P∨p∈S:=by
 unfold Dw;rcases h with ⟨h1,rfl,rfl⟩|⟨h1,h2,h3,rfl⟩
 ·rw[if_pos (by simp[inB])];exact⟨Z,fun p=>by simp⟩
 ·obtain⟨q1,q2⟩:=JH h3;rw[if_neg (by rw[Lq];decide),JM (by omega),if_pos ⟨M0,h1⟩,Mw q1 (by omega),IE h3 h2];obtain⟨g1,g2⟩:=Td hn hd;simp only;rw[if_pos g1];exact⟨Z,g2⟩
def R4{fr to k}(h1:¬Lt k fr)(h2:to=[]∨Lt k to):F5 fr to k=false:=by
 have h1:Op.bytesLess k fr=false:=by simpa [Lt] using h1
 unfold F5;rw[h1];rcases h2 with rfl|h2
 ·rfl
 ·rw[show Op.bytesLess k to=true from h2];simp
def PW{a b:List Int}(h:(a++b).Nodup):a.Nodup∧b.Nodup∧∀p∈b,p∉a:=by
 obtain⟨h1,h2,h3⟩:=Ael.1 h;exact⟨h1,h2,fun p hp q=>h3 p q p hp Z⟩
def QS{fr to}:∀{ks vs l}{P S:List Int}{n:Nat},Lf s ks vs l P→(∀x∈l,¬Lt x.1 fr)→(to=[]∨∀x∈l,Lt x.1 to)→P.Nodup→(∀p∈P,p∉S)→
  ∃S',Hw s fr to ks vs S n=⟨S',n+l.length,0⟩∧∀p,p∈S'↔p∈P∨p∈S
 |[],[],l,P,S,n,h,_,_,_,_=>by
  rw[Lf] at h;obtain⟨rfl,rfl⟩:=h;refine⟨S,?_,fun p=>by simp⟩
  rw[Hw]
  ·rfl
  ·simp
 |[],_::_,l,P,S,n,h,_,_,_,_=>by rw[Lf] at h<;>simp_all
 |_::_,[],l,P,S,n,h,_,_,_,_=>by rw[Lf] at h<;>simp_all
 |k::ks,c::cs,l,P,S,n,h,hf,ht,hn,hd=>by
  rw[Lf] at h;obtain⟨v,l',P1,P2,rfl,rfl,hc,h2⟩:=h;obtain⟨n1,n2,n3⟩:=PW hn;obtain⟨c1,c2⟩:=Yh hc n1 (fun p hp=>hd p (Ada _ hp));rw[Hw,if_neg (by rw[R4 (hf (k,v) (Acm ..)) (ht.imp id (fun q=>q (k,v) (Acm ..)))];decide),if_neg (fun q=>q c1)];obtain⟨S',e,q⟩:=QS (S:=(Dw s S c).1) (n:=n+1) h2 (fun x hx=>hf x (Aco _ hx)) (ht.imp id (fun q x hx=>q x (Aco _ hx))) n2 (fun p hp r=>by
   rcases (c2 p).1 r with r|r
   ·exact n3 p hp r
   ·exact hd p (Acy _ hp) r)
  refine⟨S',by rw[e,Acx];congr 1;omega,fun p=>?_⟩
  rw[q,c2,Ach];constructor
  ·rintro(r|r|r)
   ·exact .inl (.inr r)
   ·exact .inl (.inl r)
   ·exact .inr r
  ·rintro((r|r)|r)
   ·exact .inr (.inl r)
   ·exact .inl r
   ·exact .inr (.inr r)
def Rc{R:RT}{to}{rec:Int→List UInt8→List UInt8→List Int→Nat→CR}
  (ih:∀{k:Int}{l}{P S:List Int}{fr to}{n:Nat},R k l P→(∀x∈l,¬Lt x.1 fr)→(to=[]∨∀x∈l,Lt x.1 to)→P.Nodup→(∀p∈P,p∉S)→∃S',rec k fr to S n=⟨S',n+l.length,0⟩∧∀p,p∈S'↔p∈P∨p∈S):
  ∀{ks}{cs:List Int}{l}{P S:List Int}{lo}{n:Nat},Kd R ks cs l P→(∀x∈l,¬Lt x.1 lo)→(to=[]∨∀x∈l,Lt x.1 to)→P.Nodup→(∀p∈P,p∉S)→
   ∃S',FZ rec lo to ks cs S n=⟨S',n+l.length,0⟩∧∀p,p∈S'↔p∈P∨p∈S
 |[],[c],l,P,S,lo,n,h,hf,ht,hn,hd=>by
  obtain⟨S',e,q⟩:=ih (n:=n) h hf ht hn hd;refine⟨S',?_,q⟩
  rw[FZ,List.headD_nil,e];simp only[ne_eq,not_true_eq_false,if_false];rw[FZ]
 |[],[],l,P,S,lo,n,h,_,_,_,_=>h.elim
 |[],_::_::_,l,P,S,lo,n,h,_,_,_,_=>h.elim
 |_::_,[],l,P,S,lo,n,h,_,_,_,_=>h.elim
 |k::ks,c::cs,l,P,S,lo,n,h,hf,ht,hn,hd=>by
  obtain⟨l1,l2,P1,P2,rfl,rfl,g1,g2,g3,g4⟩:=Kd.cons.1 h;obtain⟨n1,n2,n3⟩:=PW hn;obtain⟨S1,e1,q1⟩:=ih (n:=n) g1 (fun x hx=>hf x (Ada _ hx)) (.inr g2) n1 (fun p hp=>hd p (Ada _ hp));obtain⟨S2,e2,q2⟩:=Rc (R:=R) (fun{k l P S fr to n}=>ih) (S:=S1) (n:=n+l1.length) g4 g3 (ht.imp id (fun q x hx=>q x (Acy _ hx))) n2 (fun p hp r=>by
   rcases (q1 p).1 r with r|r
   ·exact n3 p hp r
   ·exact hd p (Acy _ hp) r)
  refine⟨S2,?_,fun p=>?_⟩
  ·rw[FZ,List.headD_cons,e1];simp only[ne_eq,not_true_eq_false,if_false,List.tail_cons];rw[e2,Aci];congr 1;omega
  ·rw[q2,q1,Ach];constructor
   ·rintro(r|r|r)
    ·exact .inl (.inr r)
    ·exact .inl (.inl r)
    ·exact .inr r
   ·rintro((r|r)|r)
    ·exact .inr (.inl r)
    ·exact .inl r
    ·exact .inr (.inr r)
def Ng:∀(h g:Nat) {k:Int}{l}{P S:List Int}{fr to}{n:Nat},h≤g→Tr s h k l P→(∀x∈l,¬Lt x.1 fr)→(to=[]∨∀x∈l,Lt x.1 to)→P.Nodup→(∀p∈P,p∉S)→
  ∃S',Cb s g k (h:Nat) fr to S n=⟨S',n+l.length,0⟩∧∀p,p∈S'↔p∈P∨p∈S
 |0,g,k,l,P,S,fr,to,n,_,h,_,_,_,_=>h.elim
 |h+1,0,k,l,P,S,fr,to,n,hg,_,_,_,_,_=>absurd hg (by omega)
 |h+1,g+1,k,l,P,S,fr,to,n,hg,⟨m,Q,hat,hne,eP,hm⟩,hf,ht,hn,hd=>by
  subst eP;obtain⟨n1,n2⟩:=Afn.1 hn;have hd2:∀p∈Q,p∉k::S:=fun p hp q=>by
   rcases Acw.1 q with rfl|q
   ·exact n1 hp
   ·exact hd p (Aco _ hp) q
  have hmem:∀S':List Int,(∀p,p∈S'↔p∈Q∨p∈k::S)→∀p,p∈S'↔p∈k::Q∨p∈S:=fun S' q p=>by
   rw[q,Acw,Acw];constructor
   ·rintro(r|r|r)
    ·exact .inl (.inr r)
    ·exact .inl (.inl r)
    ·exact .inr r
   ·rintro((r|r)|r)
    ·exact .inr (.inl r)
    ·exact .inl r
    ·exact .inr (.inr r)
  cases h with
  |zero=>
   rw[decide_eq_true Z] at hm
   obtain⟨m1,m2⟩:=hm.leaf
   have hlv:=hat.level (x:=((0+1:Nat):Int)) (by rw[m1];rfl)
   rw[Cb,hlv]
   dsimp only
   rw[if_neg (by simp),if_neg (fun q=>q.elim (hd k (Acm ..)) hne),if_pos m1]
   obtain⟨S',e,q⟩:=QS (n:=n) m2 hf ht n2 hd2
   exact⟨S',e,hmem S' q⟩
  |succ h=>
   rw[decide_eq_false (Aef _)] at hm
   obtain⟨m1,m2⟩:=hm.inner
   have hlv:=hat.level (x:=((h+1+1:Nat):Int)) (by rw[m1];exact(decide_eq_false (by omega)).symm)
   rw[Cb,hlv]
   dsimp only
   rw[if_neg (by simp),if_neg (fun q=>q.elim (hd k (Acm ..)) hne),if_neg (by rw[m1];decide)]
   have hbt:=(Kd.btw (fun c l P q=>Tr.ne q) m2).2
   rw[if_neg (fun q=>by
    obtain⟨x,hx,hy⟩:=List.any_eq_true.1 q;obtain⟨⟨a,ha1,ha2⟩,b,hb1,hb2⟩:=hbt x hx;rw[R4 (fun q=>hf a ha1 (EG ha2 q)) (ht.imp id (fun q=>I5 hb2 (q b hb1)))] at hy;cases hy)]
   rw[show((h+1+1:Nat):Int) - 1=((h+1:Nat):Int) by omega]
   obtain⟨S',e,q⟩:=Rc (R:=Tr s (h+1)) (rec:=fun c lo hi S n=>Cb s g c ((h+1:Nat):Int) lo hi S n) (fun{k l P S fr to n} q1 q2 q3 q4 q5=>Ng (h+1) g (by omega) q1 q2 q3 q4 q5) (n:=n) m2 hf ht n2 hd2
   exact⟨S',e,hmem S' q⟩
end
section
variable {t:TD}{l:List KV}{P:List Int}
def Tok.check(h:Tok t l P){g:Nat}(hg:t.height≤g){c:Nat}(hc:c=0∨l≠[]):HP g {t with count:=t.count+c}=if c=0 then 0 else 200:=by
 unfold HP;dsimp only;rcases h.tr with ⟨e1,_,rfl,_⟩|⟨x,e1,e2⟩
 ·have hc:c=0:=hc.resolve_right (fun q=>q Z);rw[if_pos e1,if_pos hc,hc,h.ct];rfl
 ·obtain⟨S',e,_⟩:=Ng (s:=t.s) (x+1) g (k:=t.root) (S:=[]) (fr:=[]) (to:=[]) (n:=0) (by omega) e2 (fun y _ q=>by cases hy:y.1<;>rw[hy] at q<;>simp[Lt,Op.bytesLess] at q) (.inl Z) h.nd (fun p _ q=>by cases q);rw[if_neg (show¬t.height=0 by omega),e1,e];simp only[ne_eq,not_true_eq_false,if_false,h.ct];by_cases q:c=0
  ·rw[if_pos q,if_neg (by omega)]
  ·rw[if_neg q,if_pos (by omega)]
end
end
end Go.Gk.Tre
end
section
namespace Go.Gk.Tre
open Go Go.Gk Go.Gk.Dev Go.Gk.Cch Go.Gk.Pgr Go.Gk.Chn Go.Gk.Node
attribute [local irreducible] gwp gws xwp
variable{P:Program}{f f1:FuncId}
def LN(P:Program)(f:FuncId):Prop:=∀{d s dv pv L}{k x:Int},Pg d s dv pv L→
 AB P f [pv,vZ k,vZ x] d L (Ret fun v d' L'=>Le d d'∧∃cs tc,v=.tuple #[.agg cs.toArray,vZ (AN s k x).2]∧CO d' cs (AN s k x).1∧Pg d' {s with tc:=tc} dv pv L'∧((AN s k x).2=0→tc=s.tc+1))
def SD(a0 a1:Nat):A3:=⟨37,[(.cell 6 (some 4)),(.tmp 7)],(sR (o1 6 (.alo (.agg #[(.bool false),nV,nV,nV]))<|o1 7 (.mv z0) .done) (sR (om 12 0<|om 13 1<|oc 14 a0 [12,13]<|om 11 14<|oe 15 11 0<|oe 16 11 1<|om 8 15<|om 9 16 .done) (.seq (sR (om 17 9<|ob 18 .neq 17 z0 .done) (.cond 18 (sR (o1 19 (.bld [(0,1),(1,1),(2,1),(3,1)] [(.bool false),nV,nV,nV] [])<|om 20 9<|o0 (.st 4 6 19)<|om 7 20 .done) .ret) .skip)) (sR (om 22 8<|oc 23 a1 [22]<|om 21 23<|oe 24 21 0<|oe 25 21 1<|o1 10 (.alo (.agg #[(.bool false),nV,nV,nV]))<|o0 (.st 4 10 24)<|om 9 25 .done) (.seq (sR (om 26 9<|ob 27 .eql 26 z0<|om 28 27<|oT 29 28 (.fld 0 10)<|oT 30 28 (.ld none 29)<|gT 31 28 2<|oT 32 28 (.bin .eql 31 z1)<|oT 33 28 (.eqb true 30 32)<|gP 34 28 33 .done) (.cond 34 (rG (o1 9 (.mv (kZ 200)) .done)) .skip)) (sR (o1 35 (.ld (some 4) 10)<|om 36 9<|o0 (.st 4 6 35)<|om 7 36 .done) .ret))))))⟩
set_option maxRecDepth 4000 in
def Ya{f2}(hd:dec P f=some (SD f1 f2))(h1:E7 P f1)(h2:N3 P f2):LN P f:=by
 intro d s dv pv L k x hp;obtain⟨bp,rfl⟩:=hp.ptr;refine AK hd (Aca Z) ?_;show gwp P _ _ _ _ _;apply Ag;apply AI;refine Dj (fun b6 T6=>?_);refine Ac Z<|Aa<|Ad<|Ah Z<|Ac Z<|Be [_] (h1.atT (k:=k) hp) Z Z (fun v d2 L2 hl ⟨a,q,tc,e1,hb,hp2,htc⟩=>?_);subst e1;by_cases hlv:A6 s k
 ·rw[MV hlv];rw[if_pos hlv] at htc;have hr:Bw s k=(Dz (s.bytes k),GA (s.bytes k)):=by unfold Bw;rw[if_pos hlv]
  have hr1:(Bw s k).1=Dz (s.bytes k):=by rw[hr]
  have hr2:(Bw s k).2=GA (s.bytes k):=by rw[hr]
  refine AU Z<|Ap Z Z<|Ap Z Z<|Ak Z<|Ac Z<|Aa<|Ag<|Ad<|Ac Z<|AW Z Z<|Aa<|Aw Z (by omega)<|Al<|Ad<|Ak Z<|CF Z (h2 hb) (fun u d3 L3 hl3 ⟨q0,cs,q1,q2⟩=>?_);subst q0;subst q1;obtain⟨d4,hk,hv,hi,v1,v2,v3⟩:=EZ.YM q2;obtain⟨d5,hl5,v5,hn5⟩:=RV v3;refine BA _ _ ((Vs.app v1 _).trans (Vs.app v5 _)) ?_;obtain⟨xa,xc,ya,yc,za,zc,rfl⟩:=CO.four hn5;have hp5:=(hp2.mono v2).mono hl5;have hL:AN s k x=(Dz (s.bytes k),if GA (s.bytes k)=0∧(Dz (s.bytes k)).leaf≠decide (x=1) then 200 else GA (s.bytes k)):=by unfold AN;rw[hr]
  rw[hL];replace hn5:CO d5 [.bool (Dz (s.bytes k)).leaf,.slice xa (Dz (s.bytes k)).keys.length xc,.slice ya (Dz (s.bytes k)).vals.length yc,.slice za (Dz (s.bytes k)).kids.length zc] (Dz (s.bytes k)):=hn5;refine Gf (g:=23) (show _=Value.tuple #[.agg [.bool (Dz (s.bytes k)).leaf,.slice xa (Dz (s.bytes k)).keys.length xc,.slice ya (Dz (s.bytes k)).vals.length yc,.slice za (Dz (s.bytes k)).kids.length zc].toArray,vZ (GA (s.bytes k))] from Z) ?_;clear hr hr1 hr2 hL q2 v3;generalize Dz (s.bytes k)=n at hn5⊢;generalize GA (s.bytes k)=e;(refine AU Z<|Ap Z Z<|Ap Z Z<|Da (fun _ _=>?_));rename_i b10 T10;refine Et 0 Z Z Z Z (Acj _) Z ?_;by_cases hz:e=0
  ·subst hz;by_cases hx:n.leaf=decide (x=1)
   ·rw[if_neg (fun q=>q.2 hx)];have hxx:(true ^^(n.leaf==decide (x=1)))=false:=by rw[hx];simp
    (refine Ac Z<|Aa<|Ag<|Ad<|Ac Z<|AT Z Z<|Af Z<|A4 Z (by omega)<|Ae Z<|Aj Z<|Ae Z<|Ai Z (Aq 0 Z Z)<|Ae Z<|Ac Z<|Ae Z<|AT Z Z<|Ae Z<|Oq Z Z<|Ay Z Z<|Aa ?_;apply Rq;rfl;(with_reducible assumption);refine Al<|Ad<|Cg 0 Z Z Z<|Ac Z ?_);refine Et 1 Z Z Z Z (Acj _) Z ?_;(refine Ac Z<|Aa<|Ao ?_);exact A9 [.agg [.bool n.leaf,.slice xa n.keys.length xc,.slice ya n.vals.length yc,.slice za n.kids.length zc].toArray,vZ 0] ⟨Co 1 Z Z Z,Ar Z,trivial⟩ (d':=d5) (L':=L2) (Vs.drop (.cons _ (.cons _ (Acd _)))) ⟨(hl.trans v2).trans hl5,_,tc,Z,hn5,hp5,fun _=>htc⟩
   ·rw[if_pos ⟨Z,hx⟩];have hxx:(true ^^(n.leaf==decide (x=1)))=true:=by cases hb:n.leaf<;>rw[hb] at hx<;>simp at hx⊢<;>omega
    (refine Ac Z<|Aa<|Ag<|Ad<|Ac Z<|AT Z Z<|Af Z<|A4 Z (by omega)<|Ae Z<|Aj Z<|Ae Z<|Ai Z (Aq 0 Z Z)<|Ae Z<|Ac Z<|Ae Z<|AT Z Z<|Ae Z<|Oq Z Z<|Ay Z Z<|Aa ?_;apply Rk;rfl;(with_reducible assumption);refine AI<|Ac Z<|Aa<|Ad<|Cg 0 Z Z Z<|Ac Z ?_);refine Et 1 Z Z Z Z (Acj _) Z ?_;(refine Ac Z<|Aa<|Ao ?_);exact A9 [.agg [.bool n.leaf,.slice xa n.keys.length xc,.slice ya n.vals.length yc,.slice za n.kids.length zc].toArray,vZ 200] ⟨Co 1 Z Z Z,Ar Z,trivial⟩ (d':=d5) (L':=L2) (Vs.drop (.cons _ (.cons _ (Acd _)))) ⟨(hl.trans v2).trans hl5,_,tc,Z,hn5,hp5,fun _=>htc⟩
  ·rw[if_neg (fun q=>hz q.1)];refine Ac Z<|Aa<|Ag<|Ad<|Ac Z<|AT Z Z<|Af Z<|A1 Z (by omega)<|Am Z<|Am Z<|Am Z<|Am Z<|Am Z<|Av Z Z<|Aa<|AS Z<|Al<|Ad<|Cg 0 Z Z Z<|Ac Z<|Et 1 Z Z Z Z (Acj _) Z ?_;(refine Ac Z<|Aa<|Ao ?_);exact A9 [.agg [.bool n.leaf,.slice xa n.keys.length xc,.slice ya n.vals.length yc,.slice za n.kids.length zc].toArray,vZ e] ⟨Co 1 Z Z Z,Ar Z,trivial⟩ (d':=d5) (L':=L2) (Vs.drop (.cons _ (.cons _ (Acd _)))) ⟨(hl.trans v2).trans hl5,_,tc,Z,hn5,hp5,fun _=>htc⟩
 ·rw[(MB hlv).1];rw[if_neg hlv] at htc;have hr:Bw s k=(Iu,240):=by unfold Bw;rw[if_neg hlv]
  have hL:AN s k x=(Iu,240):=by unfold AN;rw[hr];rfl
  rw[hL];refine AU Z<|Ap Z Z<|Ap Z Z<|Ak Z<|Ac Z<|Aa<|Ag<|Ad<|Ac Z<|AW Z Z<|Aa<|AF Z (by omega)<|Ad<|Ch Z<|Ac Z<|Et 0 Z Z Z Z (Acj _) Z ?_;(refine Ac Z<|Aa<|Ao ?_);exact A9 [.agg [.bool false,nV,nV,nV].toArray,vZ 240] ⟨Co 0 Z Z Z,Ar Z,trivial⟩ (d':=d2) (L':=L2) (Vs.drop (.cons _ (Acd _)))
   ⟨hl,_,tc,Z,⟨_,_,_,Z,RSl.nil,RSl.nil,RSl.nil⟩,hp2,fun q=>absurd q (by decide)⟩
def Sz:A3:=⟨46,[(.tmp 2),(.tmp 3),(.tmp 4)],(sR (o1 2 (.mv z0)<|o1 3 (.mv z0)<|o1 4 (.mv (.const (.bool false))) .done) (.seq (sR (om 5 0<|oL 6 5<|ob 7 .neq 6 (kZ 7)<|om 8 7<|gF 9 8 0<|oF 10 8 (.idx 1 9 z0)<|oF 11 8 (.ld none 10)<|oF 12 8 (.bin .neq 11 (.const (.int .u8 1)))<|o1 13 (.pick 8 (.const (.bool true)) 12) .done) (.cond 13 (sR (o1 2 (.mv z0)<|o1 3 (.mv z0)<|o1 4 (.mv (.const (.bool false))) .done) .ret) .skip)) (.seq (.reg true (pm 14 0<|p1 15 (.idx 1 14 z1)<|pl 16 15<|p1 17 (.cvi .i64 16)<|p1 18 (.bin .shl 17 (.const (.int .u64 8)))<|pm 19 0<|p1 20 (.idx 1 19 z2)<|pl 21 20<|p1 22 (.cvi .i64 21)<|p1 23 (.bin .or 18 22)<|pm 24 0<|p1 25 (.idx 1 24 (kZ 3))<|pl 26 25<|p1 27 (.cvi .i64 26)<|p1 28 (.bin .shl 27 (.const (.int .u64 24)))<|pm 29 0<|p1 30 (.idx 1 29 (kZ 4))<|pl 31 30<|p1 32 (.cvi .i64 31)<|p1 33 (.bin .shl 32 (.const (.int .u64 16)))<|p1 34 (.bin .or 28 33)<|pm 35 0<|p1 36 (.idx 1 35 (kZ 5))<|pl 37 36<|p1 38 (.cvi .i64 37)<|p1 39 (.bin .shl 38 (.const (.int .u64 8)))<|p1 40 (.bin .or 34 39)<|pm 41 0<|p1 42 (.idx 1 41 (kZ 6))<|pl 43 42<|p1 44 (.cvi .i64 43)<|p1 45 (.bin .or 40 44)<|pm 2 23<|pm 3 45<|p1 4 (.mv (.const (.bool true))) .done)) .ret)))⟩
def Xd(hd:dec P f=some Sz):JJ P f:=Wy hd
def MO(P:Program)(f:FuncId):Prop:=∀{d s dv pv w L b},Pg d s dv pv L→AH d w b→
 AB P f [pv,w] d L (Ret fun v d' L'=>Le d d'∧∃u tc,v=.tuple #[u,vZ (BU s b).2]∧AH d' u (BU s b).1∧Pg d' {s with tc:=tc} dv pv L'∧((BU s b).2=0→tc=s.tc+Dn b))
def RN(a0 a1:Nat):A3:=⟨36,[(.tmp 4),(.tmp 5)],(sR (o1 4 (.mv nS)<|o1 5 (.mv z0) .done) (.seq (sR (om 9 1<|oL 10 9<|ob 11 .gtr 10 z0<|om 12 11<|gT 13 12 1<|oT 14 12 (.idx 1 13 z0)<|oT 15 12 (.ld none 14)<|oT 16 12 (.bin .eql 15 (.const (.int .u8 0)))<|gP 17 12 16 .done) (.cond 17 (sR (o1 18 (.bsl 0 1 [(.int .u8 0)] [])<|om 19 1<|o1 20 (.sl 1 19 (some z1) none none)<|o1 21 (.app 1 1 [(.int .u8 0)] 18 20)<|om 4 21<|o1 5 (.mv z0) .done) .ret) .skip)) (sR (om 23 1<|oc 24 a0 [23]<|om 22 24<|oe 25 22 0<|oe 26 22 1<|oe 27 22 2<|om 6 25<|om 7 26<|om 8 27 .done) (.seq (sR (om 28 8<|o1 29 (.un .not 28) .done) (.cond 29 (sR (o1 4 (.mv nS)<|o1 5 (.mv (kZ 200)) .done) .ret) .skip)) (sR (om 30 0<|om 31 6<|om 32 7<|oc 33 a1 [30,31,32]<|oe 34 33 0<|oe 35 33 1<|om 4 34<|om 5 35 .done) .ret)))))⟩
set_option maxRecDepth 4000 in
def VT{f2}(hd:dec P f=some (RN f1 f2))(h2:JJ P f1)(h3:Ln P f2):MO P f:=by
 intro d s dv pv w L b hp hw;obtain⟨bp,rfl⟩:=hp.ptr;obtain⟨wa,wc,rfl⟩:=RSl.val hw;refine AK hd (Aca Z) ?_;show gwp P _ _ _ _ _;by_cases h0:0<b.length
 ·have g0:=Cp (b:=b) (i:=0) h0;by_cases e0:b[0]=0
  ·have hb0:=O0 (b:=b) Z h0 (n:=0) (by rw[g0,e0];rfl);have hi:inB b=true:=by unfold inB;rw[g0,e0];simp[h0]
   have hF:BU s b=(b.drop 1,0):=by unfold BU;rw[if_pos hi]
   have hT:Dn b=0:=by unfold Dn;rw[if_pos hi]
   rw[hF,hT];clear hi hF hT;have hwl:=hw.Bt;(refine Ad<|Ak Z<|Ac Z<|Aa<|Ag<|Ad<|Ak Z<|AO Z<|Bb Z Z<|Af Z<|A4 Z (by omega)<|Ae Z<|Ak Z<|Ae Z<|A0 (sz:=1) (R:=AE) (by rfl) (by assumption) (by rfl) Z (by omega) ?_;rintro _ _ _ _ _ rfl;refine Ae Z<|Ai Z (Bp (by assumption) Z)<|Ae Z<|AT Z Z<|Ay Z Z<|Aa<|AF Z (by omega)<|Ad ?_);refine De (cs:=[]) (by simp) (by simp[Instr.fill,Bm]) (fun b18 T18=>?_);(apply Ak;rfl);refine F6 (R:=AE) (sz:=1) (n:=1) Z hw Z Z (by omega) (fun v' hv'=>?_);refine OJ (R:=AE) (sz:=1) (xs:=[]) AP Z (An.MK (R:=AE) (sz:=1)) Z (RSl.src hv' EX (by omega) _) (by omega) (by simp;omega) (by simp;omega) (fun a c' d' hl hu=>?_);rewrite [Adr] at hu⊢;(refine Ak Z<|Ac Z<|Aa<|Ao ?_);exact Cw Z Z (Acd _) ⟨hl,_,s.tc,Z,hu,hp.mono hl,fun _=>Z⟩
  ·have hb0:=O0 (b:=b) Z h0 (n:=_) (congrArg UInt8.toNat g0);have hb1:b[0].toNat≠0:=fun q=>e0 (UInt8.toNat_inj.1 q);(refine Ad<|Ak Z<|Ac Z<|Aa<|Ag<|Ad<|Ak Z<|AO Z<|Bb Z Z<|Af Z<|A4 Z (by omega)<|Ae Z<|Ak Z<|Ae Z<|A0 (sz:=1) (R:=AE) (by rfl) (by assumption) (by rfl) Z (by omega) ?_;rintro _ _ _ _ _ rfl;refine Ae Z<|Ai Z (Bp (by assumption) Z)<|Ae Z<|AT Z Z<|Ay Z Z<|Aa<|Aw Z (by omega)<|Al<|Ad<|Ak Z ?_);have hi:inB b=false:=by unfold inB;rw[g0];simp[e0]
   cases hf:EK b with
   |true=>
    have hF:BU s b=(Chn.Bq s (EJ b) (DL b)).2:=by unfold BU;rw[hi,if_neg (by decide),hf,if_pos Z]
    have hT:Dn b=AM (DL b):=by unfold Dn;rw[hi,if_neg (by decide)]
    rw[hF,hT]
    have hc:=h2 hw
    rw[hf,if_pos Z,if_pos Z] at hc
    clear hi hf hF hT
    refine Br Z hc ?_
    (refine AU Z<|Ap Z Z<|Ap Z Z<|Ap Z Z<|Ac Z<|Ac Z<|Af Z<|Aa<|Ag<|Ad<|Af Z<|Bd Z<|Aa<|AS Z<|Al<|Ad<|Ah Z<|Ac Z<|Ac Z ?_)
    refine Be [] (h3 (k:=EJ b) (size:=DL b) hp) Z Z (fun v d2 L2 hl ⟨_,u,tc,e1,hu,hp2,htc⟩=>?_)
    subst e1
    rw[Int.toNat_natCast] at htc
    (refine Ap Z Z<|Ap Z Z<|AQ<|Ac Z<|Aa<|Ao ?_)
    exact Cw Z Z (Acd _) ⟨hl,u,tc,Z,hu,hp2,htc⟩
   |false=>
    have hF:BU s b=([],200):=by unfold BU;rw[hi,if_neg (by decide),hf,if_neg (by decide)]
    rw[hF]
    have hc:=h2 hw
    rw[hf,if_neg (by decide),if_neg (by decide)] at hc
    clear hi hf hF
    refine Br Z hc ?_
    (refine AU Z<|Ap Z Z<|Ap Z Z<|Ap Z Z<|Ac Z<|Ac Z<|Af Z<|Aa<|Ag<|Ad<|Af Z<|Bd Z<|Aa<|A8 Z<|Ad<|Ak Z<|Ac Z<|Aa<|Ao ?_)
    exact Cw Z Z (Acd _) ⟨Le.refl _,_,s.tc,Z,RSl.nil,hp,fun q=>absurd (show(200:Int)=0 from q) (by decide)⟩
 ·(refine Ad<|Ak Z<|Ac Z<|Aa<|Ag<|Ad<|Ak Z<|AO Z<|Bb Z Z<|Af Z<|A1 Z (by omega)<|Am Z<|Am Z<|Am Z<|Am Z<|Av Z Z<|Aa<|AS Z<|Al<|Ad<|Ak Z ?_);have hi:inB b=false:=by unfold inB;simp[h0]
  have hf:EK b=false:=by
   unfold EK;rw[decide_eq_false (by omega)];rfl
  have hF:BU s b=([],200):=by unfold BU;rw[hi,if_neg (by decide),hf,if_neg (by decide)]
  rw[hF];have hc:=h2 hw;rw[hf,if_neg (by decide),if_neg (by decide)] at hc;clear hi hf hF;refine Br Z hc ?_;(refine AU Z<|Ap Z Z<|Ap Z Z<|Ap Z Z<|Ac Z<|Ac Z<|Af Z<|Aa<|Ag<|Ad<|Af Z<|Bd Z<|Aa<|A8 Z<|Ad<|Ak Z<|Ac Z<|Aa<|Ao ?_);exact Cw Z Z (Acd _) ⟨Le.refl _,_,s.tc,Z,RSl.nil,hp,fun q=>absurd (show(200:Int)=0 from q) (by decide)⟩
def ON(P:Program)(f:FuncId):Prop:=∀{d s dv pv w L b},PgT d s dv pv L→AH d w b→b.length≤16384→
 AB P f [pv,w] d L (Ret fun v d' L'=>Le d d'∧∃u,v=.tuple #[u,vZ (Bs s b).2.2]∧AH d' u (Bs s b).2.1∧PgT d' (Bs s b).1 dv pv L')
def SF(a0:Nat):A3:=⟨41,[(.tmp 4),(.tmp 5)],(sR (o1 4 (.mv nS)<|o1 5 (.mv z0) .done) (.seq (sR (om 9 1<|oL 10 9<|ob 11 .leq 10 (kZ 15) .done) (.cond 11 (sR (o1 12 (.bsl 1 1 [(.int .u8 0)] [(0,(.const (.int .u8 0)))])<|om 13 1<|o1 14 (.app 1 1 [(.int .u8 0)] 12 13)<|om 4 14<|o1 5 (.mv z0) .done) .ret) .skip)) (sR (om 16 0<|om 17 1<|oc 18 a0 [16,17]<|om 15 18<|oe 19 15 0<|oe 20 15 1<|om 6 19<|om 7 20 .done) (sR (om 21 1<|oL 22 21<|om 8 22 .done) (sR (om 23 6<|ob 24 .shr 23 (.const (.int .u64 8))<|o1 25 (.cvi .u8 24)<|om 26 6<|o1 27 (.cvi .u8 26)<|om 28 8<|ob 29 .shr 28 (.const (.int .u64 24))<|o1 30 (.cvi .u8 29)<|om 31 8<|ob 32 .shr 31 (.const (.int .u64 16))<|o1 33 (.cvi .u8 32)<|om 34 8<|ob 35 .shr 34 (.const (.int .u64 8))<|o1 36 (.cvi .u8 35)<|om 37 8<|o1 38 (.cvi .u8 37)<|o1 39 (.bsl 7 1 [(.int .u8 0)] [(0,(.const (.int .u8 1))),(1,25),(2,27),(3,30),(4,33),(5,36),(6,38)])<|om 40 7<|om 4 39<|om 5 40 .done) .ret)))))⟩
set_option maxRecDepth 4000 in
def Yk(hd:dec P f=some (SF f1))(h1:Nz P f1):ON P f:=by
 intro d s dv pv w L b hp hw hbl;obtain⟨bp,rfl⟩:=hp.ptr;obtain⟨wa,wc,rfl⟩:=RSl.val hw;refine AK hd (Aca Z) ?_;show gwp P _ _ _ _ _;by_cases h15:b.length≤15
 ·have hF:Bs s b=(s,0::b,0):=by unfold Bs;rw[if_pos h15]
  rw[hF];refine Ad<|Ak Z<|Ac Z<|Aa<|Ag<|Ad<|Ak Z<|AO Z<|Gt Z Z<|Aa<|AF Z (by omega)<|Ad<|Db (v0:=.int .u8 0) Z Z (fun b3 T3=>?_);(apply Ak;rfl);refine OJ (R:=AE) (sz:=1) (xs:=[0]) AP Z (An.D7 (x:=(0:UInt8)) Z Z) Z (RSl.src hw EX (by omega) _) (by omega) (by simp;omega) (by simp;omega) (fun a c' d' hl hu=>?_);(refine Ak Z<|Ac Z<|Aa<|Ao ?_);exact Cw Z Z (Acd _) ⟨hl,_,Z,hu,hp.mono hl⟩
 ·have hF:Bs s b=((B1 s b).1,F3 (B1 s b).2.1 b.length,(B1 s b).2.2):=by unfold Bs;rw[if_neg h15]
  rw[hF];refine Ad<|Ak Z<|Ac Z<|Aa<|Ag<|Ad<|Ak Z<|AO Z<|Gt Z Z<|Aa<|Aw Z (by omega)<|Al<|Ad<|Ah Z<|Ak Z<|Be [] (AbG h1 hp hw hbl) Z Z (fun v d2 L2 hl ⟨_,e1,hp2⟩=>?_);subst e1;have hrg:=Xl (b:=b) hp.GL;refine AU Z<|Ap Z Z<|Ap Z Z<|Ac Z<|Ac Z<|Aa<|Ad<|Ak Z<|AO Z<|Ac Z<|Aa<|Ad<|Ac Z<|IY Z Z (by decide)<|Ed Z<|Ac Z<|Ed Z<|Ac Z<|V7 24 ((b.length:Int) / 16777216) Z Z (by omega) (by omega) Z ?_;refine Ed Z<|Ac Z<|V7 16 ((b.length:Int) / 65536) Z Z (by omega) (by omega) Z ?_;refine Ed Z<|Ac Z<|IY Z Z (by decide)<|Ed Z<|Ac Z<|Ed Z<|Aav (a0:=1) (a1:=bI ((B1 s b).2.1 / 256)) (a2:=bI (B1 s b).2.1) (a3:=bI ((b.length:Int) / 16777216)) (a4:=bI ((b.length:Int) / 65536)) (a5:=bI ((b.length:Int) / 256)) (a6:=bI b.length) Z Z Z Z Z Z Z (fun b9 T9=>?_);(refine Ac Z<|Ak Z<|Ac Z<|Aa<|Ao ?_);exact A9 [.slice (some ⟨b9,0,none⟩) 7 7,vZ (B1 s b).2.2] ⟨Ar Z,Ar Z,trivial⟩ (d':=join d2 (bx b9 T9 ((F3 (B1 s b).2.1 b.length).map As))) (L':=L2) Vs.freeze
   ⟨hl.trans (Le.Au _ _),_,Z,An.rsl (R:=AE) (sz:=1) (d:=d2) (An.XR Z Z (by simp[F3])) AP (by omega) (Le.Au _ _) (Le.AZ _ _),hp2.mono (Le.Au _ _)⟩
def RBp(d:Ab)(cs:List Value)(x:KV):Prop:=∃k v,cs=[k,v]∧AH d k x.1∧AH d v x.2
def Cl:Gs RBp:=fun hl ⟨k,v,e,a,b⟩=>⟨k,v,e,RSl.mono (R:=AE) AP a hl,RSl.mono (R:=AE) AP b hl⟩
def R7:GG RBp:=fun d cs x ⟨k,v,e,a,b⟩=>by
 subst e;obtain⟨_,_,rfl⟩:=RSl.val a;obtain⟨_,_,rfl⟩:=RSl.val b;rfl
def Y2{pan:List PanicEntry→AL}{Qn:Env→AL}{Ls L ρ d s}{t:Nat}{x u v}(ex:ev ρ x=.agg [u,v].toArray)(h:∀b T,gws P pan Qn s Ls (upd ρ t (.slice (some ⟨b,0,none⟩) 1 1)) d (bx b T [u,v]::L)):
  gws P pan Qn (.op false ⟨some t,none,.bsl 1 2 [nV,nV] [(0,x)]⟩ s) Ls ρ d L:=by
 refine De (by omega) ?_ h
 simp[Instr.fill,Bm,List.range,List.range.loop,ex,Value.cells]
def RE{pan:List PanicEntry→AL}{Qn:Env→AL}{Ls L ρ d s}{t:Nat}{tk:Bool}{x y a a'}{n c n' c':Nat}(ex:ev ρ x=.slice a n c)(ey:ev ρ y=.slice a' n' c')
  (h:gws P pan Qn s Ls (upd ρ t (.agg [.slice a n c,.slice a' n' c'].toArray)) d L):gws P pan Qn (.op tk ⟨some t,none,.bld [(0,1),(1,1)] [nV,nV] [(0,x),(1,y)]⟩ s) Ls ρ d L:=
 Ch (cs:=[.slice a n c,.slice a' n' c']) (by simp[Instr.fill,ex,ey,Value.cells]) h
def LI(P:Program)(f:FuncId):Prop:=∀{d s}{n:Nat}{dv pv kv cv ov L}{bp bo bm:Nat}{To ro}{most:Int}{key cell out},Pg d {s with tc:=n} dv pv L→AH d kv key→AH d cv cell→
 DC d bp 0 pv→DC d bm 0 (vZ most)→An 2 RBp d ov out ro→out.length≤1000000→
 AB P f [kv,cv,pZ bp,pZ bo,pZ bm] d (bx bo To [ov]::ro::L) (Ret fun v d' L'=>Le d d'∧∃ov' ro' L2 tc,v=.tuple #[.bool (EV s most key cell out n).on,vZ (EV s most key cell out n).e]∧L'=bx bo To [ov']::ro'::L2∧
  An 2 RBp d' ov' (EV s most key cell out n).out ro'∧Pg d' {s with tc:=tc} dv pv L2∧((EV s most key cell out n).e=0→tc=(EV s most key cell out n).tc))
def OT(a0:Nat):A3:=⟨32,[(.tmp 7),(.tmp 8)],(sR (o1 7 (.mv (.const (.bool false)))<|o1 8 (.mv z0) .done) (sR (ol 12 2<|om 13 1<|oc 14 a0 [12,13]<|om 11 14<|oe 15 11 0<|oe 16 11 1<|om 9 15<|om 10 16 .done) (.seq (sR (om 17 10<|ob 18 .eql 17 z0 .done) (.cond 18 (.reg true (pm 21 0<|pm 23 9 (.par (o1 20 (.bsl 0 1 [(.int .u8 0)] []) (o1 22 (.app 1 1 [(.int .u8 0)] 20 21) (p1 24 (.bld [(0,1),(1,1)] [nV,nV] [(0,22),(1,23)]) (o1 25 (.bsl 1 2 [nV,nV] [(0,24)]) .done)))) (ol 19 3 .done) (o1 26 (.app 2 48 [nV,nV] 19 25) (.bar (o0 (.st 1 3 26) .done)))))) .skip)) (sR (ol 27 3<|oL 28 27<|ol 29 4<|ob 30 .lss 28 29<|om 31 10<|om 7 30<|om 8 31 .done) .ret))))⟩
set_option maxRecDepth 4000 in
set_option maxHeartbeats 1000000 in
def Xs(hd:R3 P f=some (OT f1))(h1:MO P f1):LI P f:=by
 intro d s n dv pv kv cv ov L bp bo bm To ro most key cell out hp hk hc hbp hbm ho hol;obtain⟨pb,rfl⟩:=hp.ptr;obtain⟨ka,kc,rfl⟩:=RSl.val hk;obtain⟨ca,cc,rfl⟩:=RSl.val hc;obtain⟨oa,oc,rfl⟩:=ho.val;have hkl:=hk.Bt;refine AK hd (Aca Z) ?_;show gwp P _ _ _ _ _;refine Ad<|Af Z<|Ac Z<|Aa<|Ad<|Ai Z (BH (by assumption))<|Ak Z<|Be [_,_] (h1 hp hc) Z Z (fun v d2 L2 hl ⟨_,u,tc,e1,hu,hp2,htc⟩=>?_);subst e1;rw[LH] at hu htc;rw[LH];obtain⟨ua,uc,rfl⟩:=hu.val;have ho2:An 2 RBp d2 (.slice oa out.length oc) out ro:=An.mono (R:=RBp) Cl ho hl;have hk2:RSl 1 AE d2 (.slice ka key.length kc) key:=RSl.mono (R:=AE) AP hk hl;have hbm2:=hbm.mono hl;have hp2:Pg d2 {s with tc:=tc} dv (pZ pb) L2:=hp2;have htc:(BU s cell).2=0→tc=n+Dn cell:=htc;by_cases he:(BU s cell).2=0
 ·have ht:EV s most key cell out n=⟨out++[(key,(BU s cell).1)],n+Dn cell,decide (((out++[(key,(BU s cell).1)]).length:Int)<most),0⟩:=by unfold EV;simp[he]
  have htc2:=htc he;rw[ht,he];clear ht he htc;generalize (BU s cell).1=vb at hu⊢;refine AU Z<|Ap Z Z<|Ap Z Z<|Ak Z<|Ac Z<|Aa<|Ag<|Ad<|Ac Z<|AT Z Z<|Aa<|AF Z (by omega)<|Jy (bx bo To [.slice oa out.length oc]::L2) [ro] (Vs.perm (Acr _ (Acn (l₁:=[ro]) (l₂:=L2)))) ?_;refine Ak Z<|Ak Z<|Hp (α:=Value×Nat×TypeId) (β:=Unit) [(3,pZ bo),(4,pZ bm),(10,vZ 0)]
   (fun x=>[(25,.slice (some ⟨x.2.1,0,none⟩) 1 1)]) (fun x d L=>RBp d [x.1,.slice ua vb.length uc] (key,vb)∧L=[bx x.2.1 x.2.2 [x.1,.slice ua vb.length uc]]) (fun _=>[(19,.slice oa out.length oc)]) (fun _ _ L=>L=[ro]) [] [ro] Z
   (fun x d d' M hl h=>⟨Cl hl h.1,h.2⟩) (fun _ _ _ _ _ h=>h) (fun _=>Z) (fun _=>Z) Z ⟨Z,Z,Z,trivial⟩ ?_ ?_ ?_
  ·refine De (cs:=[]) (by simp) (by simp[Instr.fill,Bm]) (fun b20 T20=>?_);refine OJ (R:=AE) (sz:=1) (xs:=[]) AP Z (An.MK (R:=AE) (sz:=1)) Z (RSl.src hk2 EX (by omega) _) (by omega) (by simp;omega) (by simp;omega) (fun a c' d3 hl3 hu3=>?_);rewrite [Adr] at hu3⊢;refine RE Z Z ?_;refine Y2 Z (fun b25 T25=>?_);(apply By);exact⟨_,Z,(.slice a key.length c',b25,T25),⟨Z,trivial⟩,⟨_,_,Z,hu3,RSl.mono (R:=AE) AP hu hl3⟩,Z⟩
  ·(refine Ai Z (Aq 0 Z Z)<|By ?_);exact⟨_,Z,(),⟨Z,trivial⟩,Z⟩
  rintro⟨kv',b25,T25⟩ - ρ d4 M1 M2 hl4 ⟨hM0,hM1⟩ hM2;subst hM1;subst hM2;simp only at hM0⊢;refine Ep (R:=RBp) 0 Z Z (An.mono (R:=RBp) Cl ho2 hl4) Z (An.D7 Z hM0) R7 (by omega) (by simp;omega) (by simp;omega) (fun v5 h5 o5=>?_);obtain⟨a5,c5,rfl⟩:=o5.val;have hbm4:=hbm2.mono hl4;(apply Du);refine Bg 0 [.slice a5 (out++[(key,vb)]).length c5] Z Z Z Z (Aca Z) Z Z ?_;(refine Aa<|Ad<|Ai Z (Aq 0 Z Z)<|AO Z<|Ai Z (BH (by assumption))<|AA Z Z<|Ac Z<|Af Z<|Ac Z<|Aa<|Ao ?_);exact A9 [.bool (decide (((out++[(key,vb)]).length:Int)<most)),vZ 0] ⟨Ar Z,Ar Z,trivial⟩ (d':=d4) (L':=bx bo To [.slice a5 (out++[(key,vb)]).length c5]::h5::L2) (Vs.perm (Acr _ (Acn (l₁:=L2) (l₂:=[h5]))))
   ⟨hl.trans hl4,_,h5,L2,tc,Z,Z,o5,hp2.mono hl4,fun _=>htc2⟩
 ·have ht:EV s most key cell out n=⟨out,n+Dn cell,decide ((out.length:Int)<most),(BU s cell).2⟩:=by unfold EV;simp[he]
  rw[ht];clear ht htc;(refine AU Z<|Ap Z Z<|Ap Z Z<|Ak Z<|Ac Z<|Aa<|Ag<|Ad<|Ac Z<|AT Z Z<|Aa<|Aw Z (by omega)<|Al<|Ad<|Ai Z (Aq 0 Z Z)<|AO Z<|Ai Z (BH (by assumption))<|AA Z Z<|Ac Z<|Af Z<|Ac Z<|Aa<|Ao ?_);exact A9 [.bool (decide ((out.length:Int)<most)),vZ (BU s cell).2] ⟨Ar Z,Ar Z,trivial⟩ (d':=d2) (L':=bx bo To [.slice oa out.length oc]::ro::L2) (Vs.refl _ _)
   ⟨hl,_,ro,L2,tc,Z,Z,ho2,hp2,fun q=>absurd q he⟩
end Go.Gk.Tre
end
section
namespace Go.Gk
open Go
section
section
variable {P:Program}{pan:List PanicEntry→AL}{Qn:Env→AL}{Ls L:List Ab}{ρ:Env}{d:Ab}{s:GS}{t:Nat}
def QF{f g}{first cap:Array Value}{args R vs A B}(hp:L.Perm (A++B))(ef:ev ρ f=.func (.func g) first cap)(ea:first.toList++args.map (ev ρ)++cap.toList=vs)
  (hc:AB P g vs d A (Ret R)) (h:∀v d' L',Le d d'→R v d' L'→gws P pan Qn s Ls (upd ρ t v) d' (L'++B)):gws P pan Qn (.op false ⟨some t,none,.callv f args⟩ s) Ls ρ d L:=
 BA d (A++B) (Vs.perm hp) (O5 A.length ef ea (by rw[Agc];exact hc) (fun v d' L' hl hr=>by rw[Agm];exact h v d' L' hl hr))
end
end
end Go.Gk
end
section
namespace Go.Gk.Tre
open Go Go.Gk Go.Gk.Dev Go.Gk.Cch Go.Gk.Pgr Go.Gk.Chn Go.Gk.Node
attribute [local irreducible] gwp gws xwp
variable{tc:Nat}{f1 f2 f3:FuncId}
section
def HM{P}{Q:BK}{a:BT}{ρ d L}(M:Env→AL)(h1:gwp P a {Q with n:=M} ρ d L)(h2:∀ρ d L,M ρ d L→Q.n ρ d L):gwp P a Q ρ d L:=MA h2 h1
section
variable {s:PD}{most:Int}{fr to:List UInt8}
def PQ{key c out}:out.length≤(EV s most key c out tc).out.length:=by
 unfold EV;simp only;split
 ·rw[Aci];omega
 ·exact Acj _
def Kl:∀{ks vs out}{tc:Nat},out.length≤(DJ s most to ks vs out tc).out.length
 |k::ks,c::cs,out,tc=>by
  rw[DJ];split
  ·exact Acj _
  ·simp only;split
   ·exact PQ (s:=s) (most:=most) (key:=k) (c:=c) (tc:=tc)
   ·exact Aeq (PQ (s:=s) (most:=most) (key:=k) (c:=c) (tc:=tc)) Kl
 |[],[],_,_=>by rw[DJ];exact Acj _;simp
 |[],_::_,_,_=>by rw[DJ];exact Acj _;simp
 |_::_,[],_,_=>by rw[DJ];exact Acj _;simp
def KN{rec:Int→List KV→Nat→WR}(hr:∀c out tc,out.length≤(rec c out tc).out.length):∀{cs:List Int}{p:Option (List UInt8)}{ks out}{tc:Nat},out.length≤(Eg rec to p ks cs out tc).out.length
 |[],_,_,_,_=>by rw[Eg];exact Acj _
 |c::cs,p,ks,out,tc=>by
  rw[Eg];split
  ·exact Acj _
  ·simp only;split
   ·exact hr _ _ _
   ·exact Aeq (hr _ _ _) (KN hr)
def VD{rec:Int→List KV→Nat→WR}(hr:∀c out tc,out.length≤(rec c out tc).out.length){c:Int}{cs:List Int}{p:Option (List UInt8)}{ks out}(hs:¬Hk p to=true):
  (rec c out tc).out.length≤(Eg rec to p ks (c::cs) out tc).out.length:=by
 rw[Eg,if_neg hs]
 simp only
 split
 ·exact Acj _
 ·exact KN hr
def Pz:∀(h:Nat) (k:Int) (out:List KV) (tc:Nat),out.length≤(B3 s most fr to h k out tc).out.length
 |0,k,out,tc=>Acj _
 |h+1,k,out,tc=>by
  rw[B3];simp only;split
  ·exact Acj _
  split
  ·exact Kl
  ·exact KN (fun c o t=>Pz h c o t)
def W9{h:Nat}{k:Int}{out}(he:(AN s k ((h+1:Nat):Int)).2≠0):B3 s most fr to (h+1) k out tc=⟨out,tc,false,(AN s k ((h+1:Nat):Int)).2⟩:=by
 rw[B3];exact if_pos he
def VU{k:Int}{out}{n:Ax}(he:(AN s k ((0+1:Nat):Int)).2=0)(hn:(AN s k ((0+1:Nat):Int)).1=n):
  B3 s most fr to (0+1) k out tc=DJ s most to (n.keys.drop (C6 n fr)) (n.vals.drop (C6 n fr)) out (tc+1):=by
 rw[B3]
 refine(if_neg (fun q=>q he)).trans ?_
 rw[hn]
 exact if_pos Z
def UU{h:Nat}{k:Int}{out}{n:Ax}(he:(AN s k ((h+1+1:Nat):Int)).2=0)(hn:(AN s k ((h+1+1:Nat):Int)).1=n):
  B3 s most fr to (h+1+1) k out tc=Eg (B3 s most fr to (h+1)) to (if C6 n fr=0 then none else n.keys[C6 n fr - 1]?) (n.keys.drop (C6 n fr)) (n.kids.drop (C6 n fr)) out (tc+1):=by
 rw[B3]
 refine(if_neg (fun q=>q he)).trans ?_
 rw[hn]
 exact if_neg (Aef _)
end
def OX(P:Program)(f:FuncId):Prop:=∀{g},LI P g→∀(x:Nat) {d s}{n:Nat}{dv pv fv tv ov L}{bp bo bm:Nat}{To ro}{most page:Int}{fr to out},
 Pg d {s with tc:=n} dv pv L→AH d fv fr→AH d tv to→DC d bp 0 pv→DC d bm 0 (vZ most)→An 2 RBp d ov out ro→(B3 s most fr to (x+1) page out n).out.length≤1000000→x≤1000000→
 AB P f [pv,vZ page,vZ ((x+1:Nat):Int),fv,tv,.func (.func g) #[] #[pZ bp,pZ bo,pZ bm]] d (bx bo To [ov]::ro::L)
  (Ret fun v d' L'=>Le d d'∧∃ov' ro' L2 tc,v=.tuple #[.bool (B3 s most fr to (x+1) page out n).on,vZ (B3 s most fr to (x+1) page out n).e]∧L'=bx bo To [ov']::ro'::L2∧
   An 2 RBp d' ov' (B3 s most fr to (x+1) page out n).out ro'∧Pg d' {s with tc:=tc} dv pv L2∧((B3 s most fr to (x+1) page out n).e=0→tc=(B3 s most fr to (x+1) page out n).tc))
def SO(a0 a1 a2 a3:Nat):A3:=⟨131,[(.tmp 12),(.tmp 13)],(sR (o1 12 (.mv (.const (.bool false)))<|o1 13 (.mv z0) .done) (sR (om 22 0<|om 23 1<|om 24 2<|oc 25 a0 [22,23,24]<|om 21 25<|oe 26 21 0<|oe 27 21 1<|o1 14 (.alo (.agg #[(.bool false),nV,nV,nV]))<|o0 (.st 4 14 26)<|om 15 27 .done) (.seq (sR (om 28 15<|ob 29 .neq 28 z0 .done) (.cond 29 (sR (om 30 15<|o1 12 (.mv (.const (.bool false)))<|om 13 30 .done) .ret) .skip)) (sR (o1 16 (.mv z0) .done) (.seq (sR (om 31 3<|oL 32 31<|ob 33 .gtr 32 z0 .done) (.cond 33 (rG (o1 35 (.ld (some 4) 14)<|om 36 3<|oc 37 a1 [35,36]<|om 34 37<|oe 38 34 0<|oe 39 34 1<|om 16 38 .done)) .skip)) (.seq (sR (oj 40 0 14<|ol 41 40 .done) (.cond 41 (.seq (.block 0 (.loop (.seq (sR (om 42 16<|oj 43 1 14<|ol 44 43<|oL 45 44<|ob 46 .lss 42 45 .done) (.cond 46 .skip (.exit 0))) (.seq (.block 1 (.seq (sR (om 49 4<|oL 50 49<|ob 51 .gtr 50 z0<|om 52 51<|oT 53 52 (.fld 1 14)<|oT 54 52 (.ld none 53)<|gT 55 52 16<|oT 56 52 (.idx 1 54 55)<|oT 57 52 (.ld none 56)<|gT 58 52 4<|oT 59 52 (.call a2 [57,58])<|oT 60 52 (.bin .geq 59 z0)<|gP 61 52 60 .done) (.cond 61 (sR (o1 12 (.mv (.const (.bool false)))<|o1 13 (.mv z0) .done) .ret) .skip)) (.seq (.reg true (pm 63 5<|p1 64 (.fld 1 14)<|pl 65 64<|pm 66 16<|p1 67 (.idx 1 65 66)<|pl 68 67<|p1 69 (.fld 2 14)<|pl 70 69<|pm 71 16<|p1 72 (.idx 1 70 71)<|pl 73 72<|o1 74 (.callv 63 [68,73])<|pm 62 74<|p1 75 (.ext 62 0)<|p1 76 (.ext 62 1)<|pm 17 75<|pm 18 76 .done)) (sR (om 77 18<|ob 78 .neq 77 z0<|om 79 78<|gF 80 79 17<|oF 81 79 (.un .not 80)<|o1 82 (.pick 79 (.const (.bool true)) 81) .done) (.cond 82 (sR (om 83 18<|o1 12 (.mv (.const (.bool false)))<|om 13 83 .done) .ret) .skip))))) (rG (om 47 16<|ob 48 .add 47 z1<|om 16 48 .done)))))) (sR (o1 12 (.mv (.const (.bool true)))<|o1 13 (.mv z0) .done) .ret)) .skip)) (.seq (.block 2 (.loop (.seq (sR (om 84 16<|oj 85 3 14<|ol 86 85<|oL 87 86<|ob 88 .lss 84 87 .done) (.cond 88 .skip (.exit 2))) (.seq (.block 3 (.seq (sR (om 91 16<|ob 92 .gtr 91 z0<|om 93 92<|gT 94 93 4<|oT 95 93 (.len 94)<|oT 96 93 (.bin .gtr 95 z0)<|gP 97 93 96<|om 98 97<|oT 99 98 (.fld 1 14)<|oT 100 98 (.ld none 99)<|gT 101 98 16<|oT 102 98 (.bin .sub 101 z1)<|oT 103 98 (.idx 1 100 102)<|oT 104 98 (.ld none 103)<|gT 105 98 4<|oT 106 98 (.call a2 [104,105])<|oT 107 98 (.bin .geq 106 z0)<|gP 108 98 107 .done) (.cond 108 (sR (o1 12 (.mv (.const (.bool false)))<|o1 13 (.mv z0) .done) .ret) .skip)) (sR (om 110 0<|oj 111 3 14<|ol 112 111<|om 113 16<|oI 114 1 112 113<|ol 115 114<|om 116 2<|ob 117 .sub 116 z1<|om 118 3<|om 119 4<|om 120 5<|oc 121 a3 [110,115,117,118,119,120]<|om 109 121<|oe 122 109 0<|oe 123 109 1<|om 19 122<|om 20 123 .done) (sR (om 124 20<|ob 125 .neq 124 z0<|om 126 125<|gF 127 126 19<|oF 128 126 (.un .not 127)<|o1 129 (.pick 126 (.const (.bool true)) 128) .done) (.cond 129 (sR (om 130 20<|o1 12 (.mv (.const (.bool false)))<|om 13 130 .done) .ret) .skip))))) (rG (om 89 16<|ob 90 .add 89 z1<|om 16 90 .done)))))) (sR (o1 12 (.mv (.const (.bool true)))<|o1 13 (.mv z0) .done) .ret))))))))⟩
set_option maxRecDepth 4000 in
set_option maxHeartbeats 4000000 in
def Xk{P f}(hd:dec P f=some (SO f1 f2 f3 f))(h1:LN P f1)(h2:Nx P f2 findD)(h3:Ft P f3):OX P f:=by
 intro g hg x;induction x using Nat.strongRecOn with
 |_ x ih=>
 intro d s n dv pv fv tv ov L bp bo bm To ro most page fr to out hp hf ht hbp hbm ho hlen hx;obtain⟨pb,rfl⟩:=hp.ptr;obtain⟨fa,fc,rfl⟩:=RSl.val hf;obtain⟨ta,tc0,rfl⟩:=RSl.val ht;obtain⟨oa,oc,rfl⟩:=ho.val;have hfl:=hf.Bt;have htl:=ht.Bt;refine AK hd (Aca Z) ?_;show gwp P _ _ _ _ _;refine Ad<|Af Z<|Ac Z<|Aa<|Ad<|Ah Z<|Ac Z<|Ac Z<|Be [_,_] (h1 (k:=page) (x:=((x+1:Nat):Int)) hp) Z Z (fun v d2 L2 hl ⟨_,cs,tc,e1,hn,hp2,htc⟩=>?_);subst e1;rw[show AN {s with tc:=n} page ((x+1:Nat):Int)=AN s page ((x+1:Nat):Int) from Z] at hn htc⊢;have hp2:Pg d2 {s with tc:=tc} dv (pZ pb) L2:=hp2;have htc:(AN s page ((x+1:Nat):Int)).2=0→tc=n+1:=htc;obtain⟨xa,xc,ya,yc,za,zc,rfl⟩:=CO.four hn;have ho2:An 2 RBp d2 (.slice oa out.length oc) out ro:=An.mono (R:=RBp) Cl ho hl;(refine AU Z<|Ap Z Z<|Ap Z Z<|Da (fun _ _=>?_));rename_i b14 T14;refine Bg 0 [.bool (AN s page ((x+1:Nat):Int)).1.leaf,.slice xa (AN s page ((x+1:Nat):Int)).1.keys.length xc,.slice ya (AN s page ((x+1:Nat):Int)).1.vals.length yc,.slice za (AN s page ((x+1:Nat):Int)).1.kids.length zc] Z Z Z Z (Aca Z) Z Z ?_;by_cases he:(AN s page ((x+1:Nat):Int)).2=0
 ·have htc2:=htc he;obtain⟨hr,hlf⟩:=GX he;obtain⟨nd,hne⟩:∃nd,(AN s page ((x+1:Nat):Int)).1=nd:=⟨_,Z⟩
  rw[he];rw[hne] at hn hr hlf⊢;have hlv:nd.leaf=true→nd.vals.length=nd.keys.length:=Hn hr;have hli:nd.leaf=false→nd.kids.length=nd.keys.length+1:=Jq hr;have hf2:RSl 1 AE d2 (.slice fa fr.length fc) fr:=RSl.mono (R:=AE) AP hf hl;have ht2:RSl 1 AE d2 (.slice ta to.length tc0) to:=RSl.mono (R:=AE) AP ht hl;have hfc:=h2 hn hf2;have hfi:C6 nd fr≤nd.keys.length:=by
   unfold C6;split
   ·omega
   ·exact QE
  clear hr htc;(refine Ac Z<|Aa<|Ag<|Ad<|Ac Z<|AW Z Z<|Aa<|Aw Z (by omega) ?_);apply Al;(refine Ad<|Ac Z<|Aa<|Ag<|Ad<|Ak Z<|AO Z<|Bb Z Z<|Aa ?_);show gwp P _ _ _ _ _;refine HM (fun ρ d5 L5=>d5=d2∧Bk ρ [(0,pZ pb),(2,vZ ((x+1:Nat):Int)),(3,.slice fa fr.length fc),(4,.slice ta to.length tc0),(5,.func (.func g) #[] #[pZ bp,pZ bo,pZ bm]),(14,pZ b14),(16,vZ (C6 nd fr))]∧
   L5=bx b14 T14 [.bool nd.leaf,.slice xa nd.keys.length xc,.slice ya nd.vals.length yc,.slice za nd.kids.length zc]::bx bo To [.slice oa out.length oc]::ro::L2) ?_ ?_
  ·by_cases h0:0<fr.length
   ·have hfr:fr≠[]:=Afi.1 h0;refine AF Z (by omega)<|AI<|Cg 0 Z Z Z<|Ak Z<|Br Z hfc ?_;(refine AU Z<|Ap Z Z<|Ap Z Z<|Ac Z<|Aa ?_);exact⟨Z,⟨Z,Z,Z,Z,Z,Z,by unfold C6;rw[if_neg hfr];rfl,trivial⟩,Z⟩
   ·have hfr:fr=[]:=List.length_eq_zero_iff.1 (by omega);(refine Aw Z (by omega)<|Al ?_);exact⟨Z,⟨Z,Z,Z,Z,Z,Z,by unfold C6;rw[if_pos hfr];rfl,trivial⟩,Z⟩
  clear hfc;rintro ρ d5 L5 ⟨hdd,hsl,hL⟩;subst hdd;subst hL;show gwp P _ _ _ _ _;refine CY _ hsl ?_;clear hsl;apply Ag;apply Ag;apply AI;refine Qj (fun d6 hl6 hg6=>?_);replace hg6:=K0 hg6;have hp6:=hp2.mono hl6;have hf6:RSl 1 AE d6 (.slice fa fr.length fc) fr:=RSl.mono (R:=AE) AP hf2 hl6;have ht6:RSl 1 AE d6 (.slice ta to.length tc0) to:=RSl.mono (R:=AE) AP ht2 hl6;have ho6:An 2 RBp d6 (.slice oa out.length oc) out ro:=An.mono (R:=RBp) Cl ho2 hl6;have hbp6:=hbp.mono (hl.trans hl6);have hbm6:=hbm.mono (hl.trans hl6);obtain⟨kv,vv,iv,q,r1,r2,r3⟩:=hn;cases q;have r1:RSl 1 RBs d6 (.slice xa nd.keys.length xc) nd.keys:=RSl.mono (R:=RBs) BQ r1 hl6;have r2:RSl 1 RBs d6 (.slice ya nd.vals.length yc) nd.vals:=RSl.mono (R:=RBs) BQ r2 hl6;have r3:RSl 1 A7 d6 (.slice za nd.kids.length zc) nd.kids:=RSl.mono (R:=A7) BE r3 hl6;clear hf2 ht2 ho2 hp2;by_cases hx0:x=0
  ·subst hx0;have hvl:=hlv (by rw[hlf];rfl);rw[VU he hne] at hlen⊢;clear hlv hli ih;have hleaf:nd.leaf=true:=by rw[hlf];rfl
   rewrite [hleaf] at hg6;(refine Aj Z<|Ai Z (Bf (by assumption) Z)<|Aa<|A8 Z<|Ag<|Az ?_);subst htc2;obtain⟨W,hW⟩:∃W,DJ s most to (nd.keys.drop (C6 nd fr)) (nd.vals.drop (C6 nd fr)) out (n+1)=W:=⟨_,Z⟩
   rw[hW] at hlen⊢;refine BM (α:=Nat×List KV×Nat×Value) (fun p=>[(4,.slice ta to.length tc0),(5,.func (.func g) #[] #[pZ bp,pZ bo,pZ bm]),(14,pZ b14),(16,vZ p.1)])
    (fun p d' Lx=>Le d6 d'∧p.1≤nd.keys.length∧DJ s most to (nd.keys.drop p.1) (nd.vals.drop p.1) p.2.1 p.2.2.1=W∧∃ro' L',An 2 RBp d' p.2.2.2 p.2.1 ro'∧Pg d' {s with tc:=p.2.2.1} dv (pZ pb) L'∧Lx=bx bo To [p.2.2.2]::ro'::L') (fun p=>nd.keys.length - p.1) (C6 nd fr,out,n+1,.slice oa out.length oc)
    ⟨Z,Z,Z,Z,trivial⟩ ⟨Le.refl _,hfi,hW,ro,L2,ho6,hp6,Z⟩ ?_
   rintro⟨i,o,t,ov⟩ ρ d7 Lx ⟨hl7,hi,hWi,ro7,L7,ho7,hp7,hL⟩;simp only at hi hWi ho7 hp7⊢;subst hL;have hg7:=hg6.mono hl7;have ht7:RSl 1 AE d7 (.slice ta to.length tc0) to:=RSl.mono (R:=AE) AP ht6 hl7;have k1:RSl 1 RBs d7 (.slice xa nd.keys.length xc) nd.keys:=RSl.mono (R:=RBs) BQ r1 hl7;have k2:RSl 1 RBs d7 (.slice ya nd.vals.length yc) nd.vals:=RSl.mono (R:=RBs) BQ r2 hl7;have n1:=k1.Bt;by_cases hc:i<nd.keys.length
   ·have hcv:i<nd.vals.length:=by omega
    have hol:o.length≤1000000:=Aeq (by rw[←hWi];exact Kl) hlen;rw[←List.getElem_cons_drop hc,←List.getElem_cons_drop hcv,DJ] at hWi;apply Ag;apply Ag;apply AI;refine Ac Z<|Aj Z<|Ai Z (Bf (by assumption) Z)<|AO Z<|AA Z Z<|Aa<|AF Z (by omega) ?_;apply Al;apply Ag;apply Az;apply Ag;by_cases hs:Hk (some nd.keys[i]) to=true
    ·rw[if_pos hs] at hWi;obtain⟨q1,q2⟩:=F0.1 hs;have h0:0<to.length:=Afi.2 q1;have hge:¬Lib.compareBytes nd.keys[i] to<0:=fun q=>q2 ((EN _ _).1 q);clear hs;(refine Ad<|Ak Z<|AO Z<|Bb Z Z<|Af Z<|A4 Z (by omega)<|Ae Z<|Aj Z<|Ae Z<|Ai Z (Bf (by assumption) Z)<|Ae Z<|Ac Z<|Ae Z<|A0 (sz:=1) (R:=RBs) (by rfl) (by assumption) (by rfl) Z (by omega) ?_;rintro _ _ _ _ _ ⟨_,rfl,_⟩;refine Ae Z<|Ai Z (Bp (by assumption) Z)<|Ae Z<|Ak Z<|Ae Z ?_);refine Br Z (h3 (by assumption) ht7) ?_;subst hWi;(refine Ae Z<|Ds Z Z<|Ay Z Z<|Aa<|AF Z (by omega)<|Ad<|Af Z<|Ac Z<|Aa<|Ao ?_);exact A9 [.bool false,vZ 0] ⟨Ar Z,Ar Z,trivial⟩ (d':=d7) (L':=bx bo To [ov]::ro7::L7) (Vs.refl _ _) ⟨(hl.trans hl6).trans hl7,ov,ro7,L7,t,Z,Z,ho7,hp7,fun _=>Z⟩
    rw[if_neg hs] at hWi;refine HM (fun ρ d8 L8=>d8=d7∧Bk ρ [(4,.slice ta to.length tc0),(5,.func (.func g) #[] #[pZ bp,pZ bo,pZ bm]),(14,pZ b14),(16,vZ i)]∧L8=bx bo To [ov]::ro7::L7) ?_ ?_
    ·by_cases h0:0<to.length
     ·have hlt:Lib.compareBytes nd.keys[i] to<0:=(EN _ _).2 (Decidable.byContradiction fun q=>hs (F0.2 ⟨Afi.1 h0,q⟩));clear hs;(refine Ad<|Ak Z<|AO Z<|Bb Z Z<|Af Z<|A4 Z (by omega)<|Ae Z<|Aj Z<|Ae Z<|Ai Z (Bf (by assumption) Z)<|Ae Z<|Ac Z<|Ae Z<|A0 (sz:=1) (R:=RBs) (by rfl) (by assumption) (by rfl) Z (by omega) ?_;rintro _ _ _ _ _ ⟨_,rfl,_⟩;refine Ae Z<|Ai Z (Bp (by assumption) Z)<|Ae Z<|Ak Z<|Ae Z ?_);refine Br Z (h3 (by assumption) ht7) ?_;(refine Ae Z<|Ds Z Z<|Ay Z Z<|Aa<|Aw Z (by omega)<|Al ?_);exact⟨Z,⟨Z,Z,Z,Z,trivial⟩,Z⟩
     ·clear hs;(refine Ad<|Ak Z<|AO Z<|Bb Z Z<|Af Z<|A1 Z (by omega)<|Am Z<|Am Z<|Am Z<|Am Z<|Am Z<|Am Z<|Am Z<|Am Z<|Av Z Z<|Aa<|AS Z<|Al ?_);exact⟨Z,⟨Z,Z,Z,Z,trivial⟩,Z⟩
    clear hs;rintro ρ d8 L8 ⟨hdd,hsl,hL⟩;subst hdd;subst hL;show gwp P _ _ _ _ _;refine CY _ hsl ?_;clear hsl;apply Ag;refine Jy [] (bx bo To [ov]::ro7::L7) (Vs.refl _ _) ?_;(refine Gv Z<|Aj Z<|Ai Z (Bf (by assumption) Z)<|Ac Z<|A0 (sz:=1) (R:=RBs) (by rfl) (by assumption) (by rfl) Z (by omega) ?_;rintro _ _ _ _ _ ⟨_,rfl,_⟩;refine Ai Z (Bp (by assumption) Z)<|Aj Z<|Ai Z (Bf (by assumption) Z)<|Ac Z<|A0 (sz:=1) (R:=RBs) (by rfl) (by assumption) (by rfl) Z (by omega) ?_;rintro _ _ _ _ _ ⟨_,rfl,_⟩;apply Ai;rfl;exact Bp (by assumption) Z);refine QF (B:=[]) (List.Perm.of_eq (Adm _).symm) Z Z (hg hp7 (show AH _ _ nd.keys[i] by assumption) (show AH _ _ nd.vals[i] by assumption) (hbp6.mono hl7) (hbm6.mono hl7) ho7 hol) (fun v d9 L9 hl9 ⟨_,ov9,ro9,L10,tc9,e1,e2,ho9,hp9,htc9⟩=>?_);subst e1;subst e2;rewrite [Adm];dsimp only at hWi;generalize EV s most nd.keys[i] nd.vals[i] o t=r at hWi ho9 htc9⊢;obtain⟨ro',rt,ron,re⟩:=r;simp only at hWi ho9 htc9⊢;by_cases he9:re=0
    ·subst he9;have htc9:=htc9 Z;subst htc9;cases ron with
     |true=>
      rw[if_neg (by simp)] at hWi
      (refine AU Z<|Ap Z Z<|Ap Z Z<|Af Z<|Ac Z<|Aa<|Ad<|Ac Z<|AW Z Z<|Af Z<|A1 Z (by omega)<|Ae Z<|Af Z<|Ae Z<|Bd Z<|Av Z Z<|Aa<|AS Z<|Al<|AI<|Ac Z<|AY Z Z (by omega) (by omega)<|Ac Z<|Aa ?_)
      exact⟨(i+1,ro',tc9,ov9),by simp only;omega,⟨Z,Z,Z,int_eq (by simp),trivial⟩,hl7.trans hl9,hc,hWi,ro9,L10,ho9,hp9,Z⟩
     |false=>
      rw[if_pos (by simp)] at hWi
      subst hWi
      (refine AU Z<|Ap Z Z<|Ap Z Z<|Af Z<|Ac Z<|Aa<|Ad<|Ac Z<|AW Z Z<|Af Z<|A1 Z (by omega)<|Ae Z<|Af Z<|Ae Z<|Bd Z<|Av Z Z<|Aa<|A8 Z<|Ad<|Ac Z<|Af Z<|Ac Z<|Aa<|Ao ?_)
      exact A9 [.bool false,vZ 0] ⟨Ar Z,Ar Z,trivial⟩ (d':=d9) (L':=bx bo To [ov9]::ro9::L10) (Vs.refl _ _) ⟨((hl.trans hl6).trans hl7).trans hl9,ov9,ro9,L10,tc9,Z,Z,ho9,hp9,fun _=>Z⟩
    ·rw[if_pos (.inl he9)] at hWi;subst hWi;(refine AU Z<|Ap Z Z<|Ap Z Z<|Af Z<|Ac Z<|Aa<|Ad<|Ac Z<|AW Z Z<|Af Z<|A4 Z (by omega)<|Am Z<|Am Z<|Ay Z Z<|Aa<|A8 Z<|Ad<|Ac Z<|Af Z<|Ac Z<|Aa<|Ao ?_);exact A9 [.bool false,vZ re] ⟨Ar Z,Ar Z,trivial⟩ (d':=d9) (L':=bx bo To [ov9]::ro9::L10) (Vs.refl _ _) ⟨((hl.trans hl6).trans hl7).trans hl9,ov9,ro9,L10,tc9,Z,Z,ho9,hp9,fun q=>absurd q he9⟩
   ·obtain rfl:i=nd.keys.length:=by omega
    rw[Afb,←hvl,Afb,DJ] at hWi
    ·subst hWi;(refine Ag<|Ad<|Ac Z<|Aj Z<|Ai Z (Bf (by assumption) Z)<|AO Z<|AA Z Z<|Aa<|Aw Z (by omega)<|Ba<|Ad<|Af Z<|Ac Z<|Aa<|Ao ?_);exact A9 [.bool true,vZ 0] ⟨Ar Z,Ar Z,trivial⟩ (d':=d7) (L':=bx bo To [ov]::ro7::L7) (Vs.refl _ _) ⟨(hl.trans hl6).trans hl7,ov,ro7,L7,t,Z,Z,ho7,hp7,fun _=>Z⟩
    ·simp
  ·obtain⟨x,rfl⟩:∃y,x=y+1:=⟨x - 1,by omega⟩
   have hil:=hli (by rw[hlf];simp;omega);rw[UU he hne] at hlen⊢;have hleaf:nd.leaf=false:=by rw[hlf];simp;omega
   rewrite [hleaf] at hg6;clear hlv hli;(refine Aj Z<|Ai Z (Bf (by assumption) Z)<|Aa<|AS Z<|Al<|Ag<|Az ?_);subst htc2;obtain⟨W,hW⟩:∃W,Eg (B3 s most fr to (x+1)) to (if C6 nd fr=0 then none else nd.keys[C6 nd fr - 1]?) (nd.keys.drop (C6 nd fr)) (nd.kids.drop (C6 nd fr)) out (n+1)=W:=⟨_,Z⟩
   rw[hW] at hlen⊢;refine BM (α:=Nat×List KV×Nat×Value) (fun p=>[(0,pZ pb),(2,vZ ((x+1+1:Nat):Int)),(3,.slice fa fr.length fc),(4,.slice ta to.length tc0),(5,.func (.func g) #[] #[pZ bp,pZ bo,pZ bm]),(14,pZ b14),(16,vZ p.1)])
    (fun p d' Lx=>Le d6 d'∧p.1≤nd.kids.length∧Eg (B3 s most fr to (x+1)) to (if p.1=0 then none else nd.keys[p.1 - 1]?) (nd.keys.drop p.1) (nd.kids.drop p.1) p.2.1 p.2.2.1=W∧∃ro' L',An 2 RBp d' p.2.2.2 p.2.1 ro'∧Pg d' {s with tc:=p.2.2.1} dv (pZ pb) L'∧Lx=bx bo To [p.2.2.2]::ro'::L') (fun p=>nd.kids.length - p.1) (C6 nd fr,out,n+1,.slice oa out.length oc)
    ⟨Z,Z,Z,Z,Z,Z,Z,trivial⟩ ⟨Le.refl _,by simp only;omega,hW,ro,L2,ho6,hp6,Z⟩ ?_
   rintro⟨i,o,t,ov⟩ ρ d7 Lx ⟨hl7,hi,hWi,ro7,L7,ho7,hp7,hL⟩;simp only at hi hWi ho7 hp7⊢;subst hL;have hg7:=hg6.mono hl7;have hf7:RSl 1 AE d7 (.slice fa fr.length fc) fr:=RSl.mono (R:=AE) AP hf6 hl7;have ht7:RSl 1 AE d7 (.slice ta to.length tc0) to:=RSl.mono (R:=AE) AP ht6 hl7;have k1:RSl 1 RBs d7 (.slice xa nd.keys.length xc) nd.keys:=RSl.mono (R:=RBs) BQ r1 hl7;have k3:RSl 1 A7 d7 (.slice za nd.kids.length zc) nd.kids:=RSl.mono (R:=A7) BE r3 hl7;have n1:=k3.Bt;by_cases hc:i<nd.kids.length
   ·rw[←List.getElem_cons_drop hc] at hWi;obtain⟨p,hp⟩:∃p,(if i=0 then none else nd.keys[i - 1]?)=p:=⟨_,Z⟩
    rw[hp] at hWi;apply Ag;apply Ag;apply AI;refine Ac Z<|Aj Z<|Ai Z (Bf (by assumption) Z)<|AO Z<|AA Z Z<|Aa<|AF Z (by omega) ?_;apply Al;apply Ag;apply Az;apply Ag;by_cases hs:Hk p to=true
    ·rw[Eg,if_pos hs] at hWi;obtain⟨k,rfl⟩:∃k,p=some k:=by
      cases p with
      |none=>cases hs
      |some k=>exact⟨k,Z⟩
     obtain⟨q1,q2⟩:=F0.1 hs;have h0:0<to.length:=Afi.2 q1;have hi0:0<i:=by
      rcases Nat.eq_zero_or_pos i with z|z
      ·rw[if_pos z] at hp;cases hp
      ·exact z
     rw[if_neg (by omega)] at hp;have hik:i - 1<nd.keys.length:=by omega
     rw[Acf hik,Option.some.injEq] at hp;have hge:¬Lib.compareBytes nd.keys[i - 1] to<0:=fun q=>q2 (by rw[←hp];exact(EN _ _).1 q);clear hs;have hie:(i:Int) - 1=((i - 1:Nat):Int):=by omega
     refine Ad<|Ac Z<|Bb Z Z<|Af Z<|A4 Z (by omega)<|Ae Z<|Ak Z<|Ae Z<|AO Z<|Ae Z<|Bb Z Z<|Ay Z Z<|Af Z<|A4 Z (by omega)<|Ae Z<|Aj Z<|Ae Z<|Ai Z (Bf (by assumption) Z)<|Ae Z<|Ac Z<|Ae Z<|CP Z Z (by omega) (by omega)<|Ae Z<|A0 (sz:=1) (R:=RBs) Z k1 Z (m:=i - 1) hie hik (fun bq oq csq hcq hDq hRq=>?_);obtain⟨uq,hu,hRu⟩:=hRq;subst hu;refine Ae Z<|Ai Z (Bp (by assumption) Z)<|Ae Z<|Ak Z<|Ae Z<|Br Z (h3 hRu ht7) ?_;subst hWi;(refine Ae Z<|Ds Z Z<|Ay Z Z<|Aa<|AF Z (by omega)<|Ad<|Af Z<|Ac Z<|Aa<|Ao ?_);exact A9 [.bool false,vZ 0] ⟨Ar Z,Ar Z,trivial⟩ (d':=d7) (L':=bx bo To [ov]::ro7::L7) (Vs.refl _ _) ⟨(hl.trans hl6).trans hl7,ov,ro7,L7,t,Z,Z,ho7,hp7,fun _=>Z⟩
    have hol:(B3 s most fr to (x+1) nd.kids[i] o t).out.length≤1000000:=Aeq (by rw[←hWi];exact VD (fun c o t=>Pz _ c o t) hs) hlen;rw[Eg,if_neg hs] at hWi;refine HM (fun ρ d8 L8=>d8=d7∧Bk ρ [(0,pZ pb),(2,vZ ((x+1+1:Nat):Int)),(3,.slice fa fr.length fc),(4,.slice ta to.length tc0),(5,.func (.func g) #[] #[pZ bp,pZ bo,pZ bm]),(14,pZ b14),(16,vZ i)]∧L8=bx bo To [ov]::ro7::L7) ?_ ?_
    ·by_cases hi0:0<i
     ·by_cases h0:0<to.length
      ·have hik:i - 1<nd.keys.length:=by omega
       have hlt:Lib.compareBytes nd.keys[i - 1] to<0:=(EN _ _).2 (Decidable.byContradiction fun q=>hs (by rw[←hp,if_neg (by omega),Acf hik];exact F0.2 ⟨Afi.1 h0,q⟩));have hie:(i:Int) - 1=((i - 1:Nat):Int):=by omega
       clear hs;refine Ad<|Ac Z<|Bb Z Z<|Af Z<|A4 Z (by omega)<|Ae Z<|Ak Z<|Ae Z<|AO Z<|Ae Z<|Bb Z Z<|Ay Z Z<|Af Z<|A4 Z (by omega)<|Ae Z<|Aj Z<|Ae Z<|Ai Z (Bf (by assumption) Z)<|Ae Z<|Ac Z<|Ae Z<|CP Z Z (by omega) (by omega)<|Ae Z<|A0 (sz:=1) (R:=RBs) Z k1 Z (m:=i - 1) hie hik (fun bq oq csq hcq hDq hRq=>?_);obtain⟨uq,hu,hRu⟩:=hRq;subst hu;refine Ae Z<|Ai Z (Bp (by assumption) Z)<|Ae Z<|Ak Z<|Ae Z<|Br Z (h3 hRu ht7) ?_;(refine Ae Z<|Ds Z Z<|Ay Z Z<|Aa<|Aw Z (by omega)<|Al ?_);exact⟨Z,⟨Z,Z,Z,Z,Z,Z,Z,trivial⟩,Z⟩
      ·clear hs;(refine Ad<|Ac Z<|Bb Z Z<|Af Z<|A4 Z (by omega)<|Ae Z<|Ak Z<|Ae Z<|AO Z<|Ae Z<|Bb Z Z<|Ay Z Z<|Af Z<|A1 Z (by omega)<|Am Z<|Am Z<|Am Z<|Am Z<|Am Z<|Am Z<|Am Z<|Am Z<|Am Z<|Av Z Z<|Aa<|AS Z<|Al ?_);exact⟨Z,⟨Z,Z,Z,Z,Z,Z,Z,trivial⟩,Z⟩
     ·clear hs;(refine Ad<|Ac Z<|Bb Z Z<|Af Z<|A1 Z (by omega)<|Am Z<|Am Z<|Am Z<|Av Z Z<|Af Z<|Am Z<|Am Z<|Am Z<|Am Z<|Am Z<|Am Z<|Am Z<|Am Z<|Am Z<|Av Z Z<|Aa<|AS Z<|Al ?_);exact⟨Z,⟨Z,Z,Z,Z,Z,Z,Z,trivial⟩,Z⟩
    clear hs hp;rintro ρ d8 L8 ⟨hdd,hsl,hL⟩;subst hdd;subst hL;show gwp P _ _ _ _ _;refine CY _ hsl ?_;clear hsl;apply Ag;apply AI;(refine Ah Z<|Aj Z<|Ai Z (Bf (by assumption) Z)<|Ac Z<|A0 (sz:=1) (R:=A7) (by rfl) (by assumption) (by rfl) Z (by omega) ?_;rintro _ _ _ _ _ ⟨rfl,_,_⟩;refine Ai Z (Bp (by assumption) Z)<|Ac Z<|CP Z Z (by omega) (by omega)<|Ak Z<|Ak Z<|Gv Z ?_);refine Gf (g:=117) (congrArg (Value.int .i64) (show((x+1+1:Nat):Int) - 1=((x+1:Nat):Int) by omega)) ?_;skip;refine Be [] (ih x (by omega) hp7 hf7 ht7 (hbp6.mono hl7) (hbm6.mono hl7) ho7 hol (by omega)) Z Z (fun v d9 L9 hl9 ⟨_,ov9,ro9,L10,tc9,e1,e2,ho9,hp9,htc9⟩=>?_);subst e1;subst e2;dsimp only at hWi;generalize B3 s most fr to (x+1) nd.kids[i] o t=r at hWi ho9 htc9⊢;obtain⟨ro',rt,ron,re⟩:=r;simp only at hWi ho9 htc9⊢;by_cases he9:re=0
    ·subst he9;have htc9:=htc9 Z;subst htc9;cases ron with
     |true=>
      rw[if_neg (by simp),List.tail_drop,List.head?_drop] at hWi
      (refine AU Z<|Ap Z Z<|Ap Z Z<|Af Z<|Ac Z<|Aa<|Ad<|Ac Z<|AW Z Z<|Af Z<|A1 Z (by omega)<|Ae Z<|Af Z<|Ae Z<|Bd Z<|Av Z Z<|Aa<|AS Z<|Al<|AI<|Ac Z<|AY Z Z (by omega) (by omega)<|Ac Z<|Aa ?_)
      exact⟨(i+1,ro',tc9,ov9),by simp only;omega,⟨Z,Z,Z,Z,Z,Z,int_eq (by simp),trivial⟩,hl7.trans hl9,hc,by rw[if_neg (by simp)];exact hWi,ro9,L10,ho9,hp9,Z⟩
     |false=>
      rw[if_pos (by simp)] at hWi
      subst hWi
      (refine AU Z<|Ap Z Z<|Ap Z Z<|Af Z<|Ac Z<|Aa<|Ad<|Ac Z<|AW Z Z<|Af Z<|A1 Z (by omega)<|Ae Z<|Af Z<|Ae Z<|Bd Z<|Av Z Z<|Aa<|A8 Z<|Ad<|Ac Z<|Af Z<|Ac Z<|Aa<|Ao ?_)
      exact A9 [.bool false,vZ 0] ⟨Ar Z,Ar Z,trivial⟩ (d':=d9) (L':=bx bo To [ov9]::ro9::L10) (Vs.refl _ _) ⟨((hl.trans hl6).trans hl7).trans hl9,ov9,ro9,L10,tc9,Z,Z,ho9,hp9,fun _=>Z⟩
    ·rw[if_pos (.inl he9)] at hWi;subst hWi;(refine AU Z<|Ap Z Z<|Ap Z Z<|Af Z<|Ac Z<|Aa<|Ad<|Ac Z<|AW Z Z<|Af Z<|A4 Z (by omega)<|Am Z<|Am Z<|Ay Z Z<|Aa<|A8 Z<|Ad<|Ac Z<|Af Z<|Ac Z<|Aa<|Ao ?_);exact A9 [.bool false,vZ re] ⟨Ar Z,Ar Z,trivial⟩ (d':=d9) (L':=bx bo To [ov9]::ro9::L10) (Vs.refl _ _) ⟨((hl.trans hl6).trans hl7).trans hl9,ov9,ro9,L10,tc9,Z,Z,ho9,hp9,fun q=>absurd q he9⟩
   ·obtain rfl:i=nd.kids.length:=by omega
    rw[Afb,Eg] at hWi;subst hWi;(refine Ag<|Ad<|Ac Z<|Aj Z<|Ai Z (Bf (by assumption) Z)<|AO Z<|AA Z Z<|Aa<|Aw Z (by omega)<|Ba<|Ad<|Af Z<|Ac Z<|Aa<|Ao ?_);exact A9 [.bool true,vZ 0] ⟨Ar Z,Ar Z,trivial⟩ (d':=d7) (L':=bx bo To [ov]::ro7::L7) (Vs.refl _ _) ⟨(hl.trans hl6).trans hl7,ov,ro7,L7,t,Z,Z,ho7,hp7,fun _=>Z⟩
 ·rw[W9 he];(refine Ac Z<|Aa<|Ag<|Ad<|Ac Z<|AW Z Z<|Aa<|AF Z (by omega)<|Ad<|Ac Z<|Af Z<|Ac Z<|Aa<|Ao ?_);exact A9 [.bool false,vZ (AN s page ((x+1:Nat):Int)).2] ⟨Ar Z,Ar Z,trivial⟩ (d':=d2) (L':=bx bo To [.slice oa out.length oc]::ro::L2) (Vs.drop (.cons _ (Acd _)))
   ⟨hl,_,ro,L2,tc,Z,Z,ho2,hp2,fun q=>absurd q he⟩
end
def Oy(P:Program)(f:FuncId):Prop:=∀{d}{bt pb:Nat}{Tt}{r h c:Int}{L},C2 P f [pZ bt,nV] d (tb bt Tt (pZ pb) r h c::L) (.tuple #[nV,.bool false,vZ 2])
def W7{P f f4}(hd:dec P f=some (Ii f1 f2 f3 f4))(h1:NN P f1):Oy P f:=by
 intro d bt pb Tt r h c L;refine AK hd (Aca Z) ?_;show gwp P _ _ _ _ _;refine Ad<|Ak Z<|Af Z<|Ac Z<|Aa<|Ag<|Ad<|Ah Z<|Ak Z<|B9 [] (h1 (key:=[]) RSl.nil) Z Z ?_;rewrite [show Cq []=2 from Z];(refine Ac Z<|Aa<|Ad<|Ac Z<|AW Z Z<|Aa<|AF Z (by omega)<|Ad<|Ac Z<|Ak Z<|Af Z<|Ac Z<|Aa<|Ao ?_);exact Dr [nV,.bool false,vZ 2] ⟨Ar Z,Ar Z,Ar Z,trivial⟩ (Acd _) ⟨Z,Z,Z⟩
def JK(P:Program)(f:FuncId):Prop:=∀{d}{t:TD}{dv pv L}{bt:Nat}{Tt},Pg d t.s dv pv L→CB t.root t.height t.count=true→t.root≤1000000000→t.height≤1000000000→t.count≤1000000000→
 AB P f [pv,pZ bt] d (tbD bt Tt pv t::L) (Ret fun v d' L'=>Le d d'∧v=vZ 0∧L'=tbD bt Tt pv t::L)
def Yt{r h c:Int}(e:CB r h c=true): -1≤r∧0≤h∧0≤c:=by
 simp only[CB,Bool.or_eq_true,Bool.and_eq_true,decide_eq_true_eq] at e;omega
def R8(a0 a1 a2 a3 a4 a5:Nat):A3:=⟨39,[(.tmp 4)],(sR (o1 4 (.mv z0) .done) (.seq (sR (om 10 0<|oc 11 a0 [10]<|o1 12 (.eqp false 11 (.const (.pointer none))) .done) (.cond 12 (sR (o1 4 (.mv z1) .done) .ret) .skip)) (.seq (sR (om 14 0<|om 15 1<|oc 16 a1 [15]<|om 17 1<|oc 18 a2 [17]<|om 19 1<|oc 20 a3 [19]<|oc 21 a4 [14,16,18,20]<|om 13 21<|oe 22 13 0<|oe 23 13 1<|om 5 22<|om 6 23 .done) (sR (om 24 6<|ob 25 .neq 24 z0<|om 26 25<|gF 27 26 1<|oF 28 26 (.eqp false 27 (.const (.pointer none)))<|o1 29 (.pick 26 (.const (.bool true)) 28) .done) (.cond 29 (sR (o1 4 (.mv z1) .done) .ret) .skip))) (.seq (sR (om 31 1<|oc 32 a5 [31,nS]<|om 30 32<|oe 33 30 0<|oe 34 30 1<|oe 35 30 2<|om 7 33<|om 8 34<|om 9 35 .done) (sR (om 36 9<|ob 37 .eql 36 z1 .done) (.cond 37 (sR (om 38 9<|om 4 38 .done) .ret) .skip))) (sR (o1 4 (.mv z0) .done) .ret)))))⟩
set_option maxRecDepth 4000 in
def V4{P f f4 f5 f6}(hd:dec P f=some (R8 f1 f2 f3 f4 f5 f6))(h1:HQ P f1)(h2:IW P f2)(h3:Hb P f3)(h4:GU P f4)(h5:Lu P f5)(h6:Oy P f6):JK P f:=by
 intro d t dv pv L bt Tt hp ho hr hh hc;obtain⟨bp,rfl⟩:=hp.ptr;obtain⟨l1,l2,l3⟩:=Yt ho;obtain⟨s,root,height,count⟩:=t;simp only at hp ho hr hh hc l1 l2 l3;refine AK hd (Aca Z) ?_;show gwp P _ _ _ _ _;refine Ad<|Ac Z<|Aa<|Ag<|Ad<|Ah Z<|Be [_] (h1 hp) Z Z (fun r d2 L2 hl2 ⟨e1,_,hm⟩=>?_);subst e1;obtain⟨bm,rfl⟩:∃bm,r=pZ bm:=by obtain⟨bm,_,_,_,_,_,q,_⟩:=hm;exact⟨bm,q⟩
 have hp2:=hp.mono hl2;clear hm;refine BZ Z Z<|Aa<|AS Z<|Al<|Ag<|Ad<|Ah Z<|Ah Z<|B9 [] (h2 (L:=L2) (t:=⟨s,root,height,count⟩)) Z Z ?_;(apply Ah;rfl);refine B9 [] (h3 (L:=L2) (t:=⟨s,root,height,count⟩)) Z Z ?_;(apply Ah;rfl);refine B9 [] (h4 (L:=L2) (t:=⟨s,root,height,count⟩)) Z Z ?_;skip;refine Be [_] (h5 (root:=root) (height:=height) (count:=count) hp2 (by omega) hr (by omega) (by omega) (by omega) (by omega)) Z Z (fun r d3 L3 hl3 ⟨_,hR⟩=>?_);rcases hR with ⟨_,bt2,Tt2,rfl,rfl⟩|⟨q,_⟩
 ·refine AU Z<|Ap Z Z<|Ap Z Z<|Ah Z<|Ac Z<|Aa<|Ad<|Ac Z<|AW Z Z<|Af Z<|A1 Z (by omega)<|Ae Z<|Ah Z<|Ae Z<|BZ Z Z<|Av Z Z<|Aa<|AS Z<|Al<|Ag<|Ad<|Ah Z<|B9 [] (h6 (bt:=bt) (pb:=bp) (Tt:=Tt) (r:=root) (h:=height) (c:=count) (L:=tb bt2 Tt2 (pZ bp) root height count::L2)) Z Z ?_;(refine AU Z<|Ap Z Z<|Ap Z Z<|Ap Z Z<|Ak Z<|Af Z<|Ac Z<|Aa<|Ad<|Ac Z<|AT Z Z<|Aa<|Aw Z (by omega)<|Al<|Ad<|Ac Z<|Aa<|Ao ?_);exact A9 [vZ 0] ⟨Ar Z,trivial⟩ (d':=d3) (L':=tbD bt Tt (pZ bp) ⟨s,root,height,count⟩::L2) (Vs.drop (.cons_cons _ (.cons _ (Acd _)))) ⟨hl2.trans hl3,Z,Z⟩
 ·rw[ho] at q;cases q
def Eu(t:TD)(most:Int)(fr to:List UInt8):List KV×Int:=
 if most<0 then([],2) else if t.height=0∨most=0 then([],0) else
  if (B3 t.s most fr to t.height t.root [] t.s.tc).e≠0 then([],(B3 t.s most fr to t.height t.root [] t.s.tc).e) else((B3 t.s most fr to t.height t.root [] t.s.tc).out,0)
def E5(t:TD)(most:Int)(fr to:List UInt8):Nat:=if most<0∨t.height=0∨most=0 then t.s.tc else(B3 t.s most fr to t.height t.root [] t.s.tc).tc
def GP(P:Program)(f:FuncId):Prop:=∀{d}{t:TD}{dv pv fv tv L}{bt:Nat}{Tt}{most:Int}{fr to},Pg d t.s dv pv L→CB t.root t.height t.count=true→t.root≤1000000000→t.height≤1000000→t.count≤1000000000→
 AH d fv fr→AH d tv to→(0<most→(B3 t.s most fr to t.height t.root [] t.s.tc).out.length≤1000000)→
 AB P f [pv,pZ bt,fv,tv,vZ most] d (tbD bt Tt pv t::L) (Ret fun v d' L'=>Le d d'∧∃rv L2 tc,v=.tuple #[rv,vZ (Eu t most fr to).2]∧RSl 2 RBp d' rv (Eu t most fr to).1∧L'=tbD bt Tt pv t::L2∧
  Pg d' {t.s with tc:=tc} dv pv L2∧((Eu t most fr to).2=0→tc=E5 t most fr to))
def Qy(a0 a1 a2 a3 a4:Nat):A3:=⟨47,[(.tmp 10),(.tmp 11)],(sR (o1 5 (.box 0)<|o1 9 (.box 4)<|o1 10 (.mv nS)<|o1 11 (.mv z0) .done) (.seq (sR (ol 16 5<|om 17 1<|oc 18 a0 [16,17]<|om 12 18 .done) (sR (om 19 12<|ob 20 .neq 19 z0 .done) (.cond 20 (sR (om 21 12<|o1 10 (.mv nS)<|om 11 21 .done) .ret) .skip))) (.seq (sR (ol 22 9<|ob 23 .lss 22 z0 .done) (.cond 23 (sR (o1 10 (.mv nS)<|o1 11 (.mv z2) .done) .ret) .skip)) (sR (o1 13 (.alo nV) .done) (.seq (sR (om 24 1<|oc 25 a1 [24]<|ob 26 .eql 25 z0<|om 27 26<|oF 28 27 (.ld none 9)<|oF 29 27 (.bin .eql 28 z0)<|o1 30 (.pick 27 (.const (.bool true)) 29) .done) (.cond 30 (sR (o1 10 (.mv nS)<|o1 11 (.mv z0) .done) .ret) .skip)) (.seq (.reg true (pl 32 5<|pm 33 1<|pm 35 1<|pm 37 2<|pm 38 3<|p1 39 (.mkf (.func a2) [] [5,13,9])<|oc 34 a3 [33]<|oc 36 a1 [35]<|oc 40 a4 [32,34,36,37,38,39]<|pm 31 40<|p1 41 (.ext 31 0)<|p1 42 (.ext 31 1)<|pm 14 41<|pm 15 42 .done)) (.seq (sR (om 43 15<|ob 44 .neq 43 z0 .done) (.cond 44 (sR (om 45 15<|o1 10 (.mv nS)<|om 11 45 .done) .ret) .skip)) (sR (ol 46 13<|om 10 46<|o1 11 (.mv z0) .done) .ret))))))))⟩
set_option maxRecDepth 4000 in
set_option maxHeartbeats 1000000 in
def VQ{P f f4 f5}(hd:dec P f=some (Qy f1 f2 f3 f4 f5))(h1:JK P f1)(h2:Hb P f2)(h3:LI P f3)(h4:IW P f4)(h5:OX P f5):GP P f:=by
 intro d t dv pv fv tv L bt Tt most fr to hp ho hr hh hc hf ht hlen;obtain⟨bp,rfl⟩:=hp.ptr;obtain⟨fa,fc,rfl⟩:=RSl.val hf;obtain⟨ta,tc0,rfl⟩:=RSl.val ht;refine AK hd (Aca Z) ?_;show gwp P _ _ _ _ _;apply Ag;apply AI;refine GJ Z (fun b5 T5=>?_);refine Qj (fun d1 hl1 hg1=>?_);replace hg1:=(K0 hg1).at (i:=0) Z;refine GJ Z (fun b9 T9=>?_);refine Qj (fun d2 hl2 hg2=>?_);replace hg2:=(K0 hg2).at (i:=0) Z;have hg1:=hg1.mono hl2;have hp2:=hp.mono (hl1.trans hl2);have hf2:RSl 1 AE d2 (.slice fa fr.length fc) fr:=RSl.mono (R:=AE) AP hf (hl1.trans hl2);have ht2:RSl 1 AE d2 (.slice ta to.length tc0) to:=RSl.mono (R:=AE) AP ht (hl1.trans hl2);refine Ak Z<|Ac Z<|Aa<|Ag<|Ad<|Ai Z (BH (by assumption))<|Ah Z<|Be [] (h1 hp2 ho hr (by omega) hc) Z Z (fun v d3 L3 hl3 ⟨_,e1,e2⟩=>?_);subst e1;subst e2;have hp3:=hp2.mono hl3;have hg3:=hg1.mono hl3;have hg4:=hg2.mono hl3;by_cases hm:most<0
 ·have hF:Eu t most fr to=([],2):=by unfold Eu;rw[if_pos hm]
  have hT:E5 t most fr to=t.s.tc:=by unfold E5;rw[if_pos (.inl hm)]
  rw[hF];(refine Ac Z<|Aa<|Ad<|Ac Z<|AW Z Z<|Aa<|Aw Z (by omega)<|Al<|Ag<|Ad<|Ai Z (BH (by assumption))<|AA Z Z<|Aa<|AF Z (by omega)<|Ad<|Ak Z<|Ac Z<|Aa<|Ao ?_);exact A9 [nV,vZ 2] ⟨Ar Z,Ar Z,trivial⟩ (d':=d3) (L':=tbD bt Tt (pZ bp) t::L) (Vs.refl _ _) ⟨(hl1.trans hl2).trans hl3,_,L,t.s.tc,Z,RSl.nil,Z,hp3,fun q=>absurd (show(2:Int)=0 from q) (by decide)⟩
 by_cases hz:t.height=0
 ·have hF:Eu t most fr to=([],0):=by unfold Eu;rw[if_neg hm,if_pos (.inl hz)]
  have hT:E5 t most fr to=t.s.tc:=by unfold E5;rw[if_pos (.inr (.inl hz))]
  rw[hF,hT];(refine Ac Z<|Aa<|Ad<|Ac Z<|AW Z Z<|Aa<|Aw Z (by omega)<|Al<|Ag<|Ad<|Ai Z (BH (by assumption))<|AA Z Z<|Aa<|Aw Z (by omega)<|Al<|Ad<|Dj (fun _ _=>Aa<|Ag<|Ad<|Ah Z ?_));rename_i b13 T13;refine B9 [_] (h2 (L:=L) (t:=t)) Z Z ?_;rewrite [hz];(refine AT Z Z<|Af Z<|A4 Z (by omega)<|Am Z<|Am Z<|Ay Z Z<|Aa<|A8 Z<|Ad<|Ak Z<|Ac Z<|Aa<|Ao ?_);exact A9 [nV,vZ 0] ⟨Ar Z,Ar Z,trivial⟩ (d':=d3) (L':=tbD bt Tt (pZ bp) t::L) (Vs.drop (.cons _ (Acd _))) ⟨(hl1.trans hl2).trans hl3,_,L,t.s.tc,Z,RSl.nil,Z,hp3,fun _=>Z⟩
 by_cases hm0:most=0
 ·have hF:Eu t most fr to=([],0):=by unfold Eu;rw[if_neg hm,if_pos (.inr hm0)]
  have hT:E5 t most fr to=t.s.tc:=by unfold E5;rw[if_pos (.inr (.inr hm0))]
  rw[hF,hT];(refine Ac Z<|Aa<|Ad<|Ac Z<|AW Z Z<|Aa<|Aw Z (by omega)<|Al<|Ag<|Ad<|Ai Z (BH (by assumption))<|AA Z Z<|Aa<|Aw Z (by omega)<|Al<|Ad<|Dj (fun _ _=>Aa<|Ag<|Ad<|Ah Z ?_));rename_i b13 T13;refine B9 [_] (h2 (L:=L) (t:=t)) Z Z ?_;(refine AT Z Z<|Af Z<|A1 Z (by omega)<|Ae Z<|Ai Z (BH (by assumption))<|Ae Z<|AT Z Z<|Av Z Z<|Aa<|AF Z (by omega)<|Ad<|Ak Z<|Ac Z<|Aa<|Ao ?_);exact A9 [nV,vZ 0] ⟨Ar Z,Ar Z,trivial⟩ (d':=d3) (L':=tbD bt Tt (pZ bp) t::L) (Vs.drop (.cons _ (Acd _))) ⟨(hl1.trans hl2).trans hl3,_,L,t.s.tc,Z,RSl.nil,Z,hp3,fun _=>Z⟩
 obtain⟨x,hx⟩:∃x,t.height=x+1:=⟨t.height - 1,by omega⟩
 obtain⟨W,hW⟩:∃W,B3 t.s most fr to (x+1) t.root [] t.s.tc=W:=⟨_,Z⟩
 have hF:Eu t most fr to=if W.e≠0 then([],W.e) else(W.out,0):=by unfold Eu;rw[if_neg hm,if_neg (by omega),hx,hW]
 have hT:E5 t most fr to=W.tc:=by unfold E5;rw[if_neg (by omega),hx,hW]
 replace hlen:=hlen (by omega);rw[hx,hW] at hlen;rw[hF,hT];clear hF hT;(refine Ac Z<|Aa<|Ad<|Ac Z<|AW Z Z<|Aa<|Aw Z (by omega)<|Al<|Ag<|Ad<|Ai Z (BH (by assumption))<|AA Z Z<|Aa<|Aw Z (by omega)<|Al<|Ad<|Dj (fun _ _=>Aa<|Ag<|Ad<|Ah Z ?_));rename_i b13 T13;refine B9 [_] (h2 (L:=L) (t:=t)) Z Z ?_;refine AT Z Z<|Af Z<|A1 Z (by omega)<|Ae Z<|Ai Z (BH (by assumption))<|Ae Z<|AT Z Z<|Av Z Z<|Aa<|Aw Z (by omega)<|Al<|Ag<|Jy [] (tbD bt Tt (pZ bp) t::bx b13 T13 [nV]::emp::L) ((Vs.perm (Adb _ _ _)).trans ((Vs.emp (d:=d3)).trans (Vs.perm ((Adb _ _ _).trans (Acr _ (Adb _ _ _)))))) ?_;refine Ai Z (BH (by assumption))<|Ah Z<|Ah Z<|Ak Z<|Ak Z<|Ub<|B9 [] (h4 (t:=t) (L:=bx b13 T13 [nV]::emp::L)) Z Z ?_;skip;refine B9 [] (h2 (t:=t) (L:=bx b13 T13 [nV]::emp::L)) Z Z ?_;rewrite [hx];have hf3:RSl 1 AE d3 (.slice fa fr.length fc) fr:=RSl.mono (R:=AE) AP hf2 hl3;have ht3:RSl 1 AE d3 (.slice ta to.length tc0) to:=RSl.mono (R:=AE) AP ht2 hl3;refine Be [_] (h5 h3 x (n:=t.s.tc) (s:=t.s) hp3 hf3 ht3 hg3 hg4 An.nil (by rw[hW];exact hlen) (by omega)) Z Z (fun v d4 L4 hl4 ⟨_,ov',ro',L5,tc,e1,e2,ho4,hp4,htc⟩=>?_);subst e1;subst e2;rw[hW] at ho4 htc⊢;obtain⟨oa,oc,rfl⟩:=ho4.val;by_cases he:W.e=0
 ·rw[if_neg (fun q=>q he)];have htc2:=htc he;(refine AU Z<|Ap Z Z<|Ap Z Z<|Af Z<|Ac Z<|Aa<|Ag<|Ad<|Ac Z<|AW Z Z<|Aa<|Aw Z (by omega)<|Al<|Ad<|Ai Z (Aq 1 Z Z)<|Ak Z<|Ac Z<|Aa<|Ao ?_);exact A9 [.slice oa W.out.length oc,vZ 0] ⟨Ar Z,Ar Z,trivial⟩ (d':=join d4 ro') (L':=tbD bt Tt (pZ bp) t::L5) ((Vs.drop (.cons_cons _ (.cons _ (Acd _)))).trans ((Vs.perm (Adb _ _ _)).trans Vs.freeze))
   ⟨(((hl1.trans hl2).trans hl3).trans hl4).trans (Le.Au _ _),_,L5,tc,Z,An.rsl (R:=RBp) (sz:=2) ho4 Cl (by omega) (Le.Au _ _) (Le.AZ _ _),Z,hp4.mono (Le.Au _ _),fun _=>htc2⟩
 ·rw[if_pos he];(refine AU Z<|Ap Z Z<|Ap Z Z<|Af Z<|Ac Z<|Aa<|Ag<|Ad<|Ac Z<|AW Z Z<|Aa<|AF Z (by omega)<|Ad<|Ac Z<|Ak Z<|Ac Z<|Aa<|Ao ?_);exact A9 [nV,vZ W.e] ⟨Ar Z,Ar Z,trivial⟩ (d':=d4) (L':=tbD bt Tt (pZ bp) t::L5) (Vs.drop (.cons_cons _ (.cons _ (.cons _ (Acd _))))) ⟨((hl1.trans hl2).trans hl3).trans hl4,_,L5,tc,Z,RSl.nil,Z,hp4,fun q=>absurd q he⟩
end Go.Gk.Tre
end
section
namespace Go.Gk.Chn
open Go Go.Gk Go.Gk.Dev Go.Gk.Cch Go.Gk.Pgr Go.Gk.Node
variable{w:Value}
section
section
variable {P:Program}{pan:List PanicEntry→AL}{Qn:Env→AL}{Ls L:List Ab}{ρ:Env}{d:Ab}{s:GS}{t:Nat}{tk:Bool}
def Cov(e d:Ab)(B:List Ab):Prop:=∀x o,e x o→d x o∨∃g∈B,g x o
def AaT{e d B Lk}{b o:Nat}{v}(hc:DC e b o v)(h:Cov e d B)(hm:∀g∈B,g∈Lk):HC d Lk ⟨b,o,none⟩ v:=by
 obtain⟨c,T,fr,h1,h2⟩:=hc;rcases h _ _ h1 with h1|⟨g,hg,h1⟩
 ·exact⟨Z,d,.inl Z,c,T,fr,h1,h2⟩
 ·exact⟨Z,g,.inr (hm g hg),c,T,fr,h1,h2⟩
def Cov.mono{e d d' B}(h:Cov e d B)(hl:Le d d'):Cov e d' B:=fun x o q=>(h x o q).elim (fun q=>.inl (hl x o q)) .inr
def RB(d:Ab)(B:List Ab)(w:Value)(b:List UInt8):Prop:=∃e,Cov e d B∧AH e w b
def RB.mono{d d' B b}(h:RB d B w b)(hl:Le d d'):RB d' B w b:=let ⟨e,h1,h2⟩:=h;⟨e,h1.mono hl,h2⟩
def RB.data{d b}(h:AH d w b):RB d [] w b:=⟨d,fun _ _ q=>.inl q,h⟩
def RB.own{d g b}(h:An 1 AE d w b g):RB d [g] w b:=
 ⟨join d g,fun _ _ q=>q.elim .inl (fun q=>.inr ⟨g,Acm ..,q⟩),An.rsl (R:=AE) (sz:=1) h AP (by omega) (Le.Au _ _) (Le.AZ _ _)⟩
def RB.val{d B b}(h:RB d B w b):∃a c,w=.slice a b.length c:=let ⟨_,_,h⟩:=h;RSl.val h
def AaA{e d B Lk a}{c:Nat}{l}(h:Cov e d B)(hm:∀g∈B,g∈Lk)(hw:AH e (.slice a l.length c) l):(a=none→l=[])∧∀a',a=some a'→∀j u,(l.map As)[j]?=some u→HC d Lk (a'.add j) u:=by
 obtain⟨a0,c',b',o',q,h2,h3,h4,h5,h6,h7,h8⟩:=hw;cases q;refine⟨fun e=>Acl (by have:=h4 e;omega),fun a' ha j u hu=>?_⟩
 rw[Afc] at hu;cases q:l[j]? with
 |none=>rw[q] at hu;cases hu
 |some y=>
  rw[q] at hu
  cases hu
  obtain⟨hj,rfl⟩:=List.getElem?_eq_some_iff.1 q
  obtain⟨cs,j1,j2,j3⟩:=h8 j hj
  obtain rfl:=j3
  have ha2:=h2 (by omega)
  rw[ha] at ha2
  cases ha2
  have h9:=j2.at (i:=0) Z
  have h0:HC d Lk ⟨b',o'+j,none⟩ (As l[j]):=AaT (by simpa using h9) h hm
  have ea:(⟨b',o',none⟩:Addr).add j=⟨b',o'+j,none⟩:=by
   unfold Addr.add;simp
  rw[ea];exact h0
def RB.src{d B Lk l}(h:RB d B w l)(hm:∀g∈B,g∈Lk):Src 1 AE d Lk w l:=by
 obtain⟨a,c,rfl⟩:=h.val;obtain⟨e,h1,h2⟩:=h;obtain⟨k1,k2⟩:=AaA h1 hm h2;refine⟨l.map As,⟨a,c,Z,by simp,fun e=>by rw[k1 e];rfl,k2⟩,CS _,fun i hi=>?_⟩
 simp only[AE,chunk,Afd,←List.map_drop,←List.map_take];rw[Acu hi];rfl
end
attribute [local irreducible] gwp gws xwp
end
end Go.Gk.Chn
end
section
namespace Go.Gk.Tre
open Go Go.Gk Go.Gk.Dev Go.Gk.Cch Go.Gk.Pgr Go.Gk.Chn Go.Gk.Node
section
attribute [local irreducible] gwp gws xwp
end
end Go.Gk.Tre
end
section
namespace Go.Gk.Tre
open Go Go.Gk Go.Gk.Dev Go.Gk.Cch Go.Gk.Pgr Go.Gk.Chn Go.Gk.Node
attribute [local irreducible] gwp gws xwp
section
def PgG(B:List Ab)(d:Ab)(s:PD)(dv pv:Value)(M:List Ab):Prop:=∃L,M.Perm (B++L)∧PgT d s dv pv L
section
variable {P:Program}{f:FuncId}{B:List Ab}{d:Ab}{s:PD}{dv pv:Value}{M:List Ab}{bt:Nat}{Tt:TypeId}
def PgG.mono{d'}(h:PgG B d s dv pv M)(hl:Le d d'):PgG B d' s dv pv M:=let ⟨L,p,h⟩:=h;⟨L,p,h.mono hl⟩
def PgG.ptr(h:PgG B d s dv pv M):∃b,pv=pZ b:=let ⟨_,_,h⟩:=h;h.ptr
def PgG.GL(h:PgG B d s dv pv M):Pgr.Good s:=let ⟨_,_,h⟩:=h;h.GL
end
end
def LK(P:Program)(f:FuncId):Prop:=∀{d}{t:TD}{dv pv kv vv L}{bt:Nat}{Tt key value B},PgT d t.s dv pv L→AH d kv key→RB d B vv value→UO t→
 AB P f [pZ bt,kv,vv] d (tbD bt Tt pv t::(B++L)) (Ret fun v d' L'=>Le d d'∧v=vZ (EI t key value).2∧∃L2,L'=tbD bt Tt pv (EI t key value).1::(B++L2)∧PgT d' (EI t key value).1.s dv pv L2)
def LK.own{P f}(h:LK P f){d}{t:TD}{dv pv kv vv L}{bt:Nat}{Tt key value g}(hp:PgT d t.s dv pv L)(hk:AH d kv key)(hv:An 1 AE d vv value g)(hf:UO t):
  AB P f [pZ bt,kv,vv] d (tbD bt Tt pv t::g::L) (Ret fun v d' L'=>Le d d'∧v=vZ (EI t key value).2∧∃L2,L'=tbD bt Tt pv (EI t key value).1::g::L2∧PgT d' (EI t key value).1.s dv pv L2):=
 h (B:=[g]) hp hk (RB.own hv) hf
def LK.data{P f}(h:LK P f){d}{t:TD}{dv pv kv vv L}{bt:Nat}{Tt key value}(hp:PgT d t.s dv pv L)(hk:AH d kv key)(hv:AH d vv value)(hf:UO t):
  AB P f [pZ bt,kv,vv] d (tbD bt Tt pv t::L) (Ret fun v d' L'=>Le d d'∧v=vZ (EI t key value).2∧∃L2,L'=tbD bt Tt pv (EI t key value).1::L2∧PgT d' (EI t key value).1.s dv pv L2):=
 h (B:=[]) hp hk (RB.data hv) hf
end Go.Gk.Tre
end
section
namespace Go.Gk.Tre
open Go Go.Gk Go.Gk.Dev Go.Gk.Cch Go.Gk.Pgr Go.Gk.Chn Go.Gk.Node
end Go.Gk.Tre
end
section
namespace Go.Gk.Tre
open Go Go.Gk Go.Gk.Dev Go.Gk.Cch Go.Gk.Pgr Go.Gk.Chn Go.Gk.Node
attribute [local irreducible] gwp gws xwp
def G9{d}{b:Nat}{T}(a:UInt8):AH (join d (bx b T [As a])) (.slice (some ⟨b,0,none⟩) 1 1) [a]:=
 An.rsl (R:=AE) (sz:=1) (xs:=[a]) (An.D7 (R:=AE) (d:=d) (x:=a) Z Z) AP (by omega) (Le.Au _ _) (Le.AZ _ _)
section
section
variable {P:Program}{pan:List PanicEntry→AL}{Qn:Env→AL}{Ls L:List Ab}{ρ:Env}{d:Ab}{s:GS}{t:Nat}{tk:Bool}
end
end
end Go.Gk.Tre
end
section
namespace Go.Gk.Tre
open Go Go.Gk Go.Gk.Dev Go.Gk.Cch Go.Gk.Pgr Go.Gk.Chn Go.Gk.Node
def Z9(a:Int)(m:Nat)(h:0<m):∃k:Nat,(a % 18446744073709551616) % (m:Int)=(k:Int)∧k<m:=by
 have h1:=Int.emod_nonneg (a % 18446744073709551616) (show(m:Int)≠0 by omega);have h2:=Int.emod_lt_of_pos (a % 18446744073709551616) (show(0:Int)<m by omega);exact⟨((a % 18446744073709551616) % (m:Int)).toNat,by omega,by omega⟩
def Gr.empty{n:Nat}(h1:1≤n)(h2:n≤8000):Gr n 0 ⟨pdN n, -1,0,0⟩ [] []:=by
 refine⟨⟨Good.new h1 (by rw[Adn];omega) (by rw[Adn];omega),Agd,Z,.inl ⟨Z,Z,Z,Z⟩⟩,fun k=>⟨fun q=>?_,fun q=>(by cases q)⟩,Acj _,fun x hx=>(by cases hx),Gc⟩
 have key:∀x:Int,0≤x→(pdN n).kind k=x→x=0:=fun x hx hk=>by
  obtain⟨i,i1, -,i2, -⟩:=Cu hk hx;have:(pdN n).kd i=0:=by
   show(Dc n []).getD i 0=0;rw[Ja,if_neg (fun q=>by cases q.2)]
  omega
 rcases q with q|q
 ·exact absurd (key 1 (by omega) q) (by omega)
 ·exact absurd (key 2 (by omega) q) (by omega)
def NA:∀(l:List KV) (key:List UInt8),∀x∈l.take (Bj l key),Lt x.1 key
 |[],key,x,h=>by simp[Bj] at h
 |y::l,key,x,h=>by
  rw[Bj] at h;by_cases e:Op.bytesLess y.1 key=true
  ·rw[if_pos e,Agu] at h;rcases Acw.1 h with rfl|h
   ·exact e
   ·exact NA l key x h
  ·rw[if_neg e] at h;cases h
def get_put{l key v}:EY (Ea l key v) key=(v,true):=by
 unfold Ea;have ha:=NA (Cm l key).1 key;generalize (Cm l key).1.take (Bj (Cm l key).1 key)=a at ha;generalize (Cm l key).1.drop (Bj (Cm l key).1 key)=b;have hf:Bj (a++((key,v)::b)) key=a.length:=by rw[G7 ha,Bj,if_neg (by simp[Ev])];rfl
 have hg:(a++((key,v)::b)).getD a.length ([],[])=(key,v):=by simp[Aga]
 rw[show a++[(key,v)]++b=a++((key,v)::b) by simp];have hi:isK (a++((key,v)::b)) key=true:=by
  unfold isK;rw[hf,hg];simp
 unfold EY;rw[if_pos hi,hf,hg]
end Go.Gk.Tre
end
section
namespace Go.Gk.Pgr
open Go Go.Gk Go.Gk.Dev Go.Gk.Cch Go.Gk.Node
attribute [local irreducible] gwp gws xwp
section
variable {P:Program}{pan:List PanicEntry→AL}{Qn:Env→AL}{Ls L:List Ab}{ρ:Env}{d:Ab}{s:GS}{t:Nat}{tk:Bool}
end
end Go.Gk.Pgr
namespace Go.Gk.Tre
open Go Go.Gk Go.Gk.Dev Go.Gk.Cch Go.Gk.Pgr Go.Gk.Chn Go.Gk.Node
attribute [local irreducible] gwp gws xwp
def Tok.tc{t:TD}{l}{P:List Int}(h:Tok t l P)(n:Nat):Tok {t with s:=wtc t.s n} l P:=
 h.same ⟨h.gd.one,h.gd.len,h.gd.inn,h.gd.syn,h.gd.kd⟩ (fun _ _=>⟨Z,Z⟩)
end Go.Gk.Tre
end
section
namespace Go.Gk.Tre
open Go Go.Gk Go.Gk.Dev Go.Gk.Cch Go.Gk.Pgr Go.Gk.Chn Go.Gk.Node
attribute [local irreducible] gwp gws xwp
abbrev ckB(bc:Nat)(Tc:TypeId)(pv:Value)(bm n:Nat):Ab:=bx bc Tc [pv,.map (some bm),.int .i64 (wr n)]
abbrev mpS(bm:Nat)(ms:List (Int×Int×Nat))(c:Nat):Ab:=mp kI kI bm ms c
def Hv(ms:List (Int×Int×Nat))(S:List Int):Prop:=∀k,CV k ms=if k∈S then some 1 else none
def JF{k k' v:Int}{c:Nat}:∀{ms:List (Int×Int×Nat)},CV k' (FL k v c ms)=if k'=k then some v else CV k' ms
 |[]=>by
  rw[FL,CV];rfl
 |p::ms=>by
  rw[FL];by_cases h:k=p.1
  ·rw[if_pos h,CV,CV];by_cases q:k'=k
   ·rw[if_pos q,if_pos (q.trans h)]
   ·rw[if_neg q,if_neg (fun e=>q (e.trans h.symm)),if_neg (fun e=>q (e.trans h.symm))]
  ·rw[if_neg h,CV,CV,JF];by_cases q:k'=k
   ·rw[if_pos q,if_neg (fun e=>h (q.symm.trans e)),if_pos q]
   ·rw[if_neg q,if_neg q]
def NB(P:Program)(f:FuncId):Prop:=∀{d}{bc bm n c:Nat}{Tc pv}{ms:List (Int×Int×Nat)}{S:List Int}{k:Int}{L},Hv ms S→
 AB P f [pZ bc,vZ k] d (ckB bc Tc pv bm n::mpS bm ms c::L) (Ret fun v d' L'=>d'=d∧v=.bool (decide (k∉S))∧∃ms' c',L'=ckB bc Tc pv bm n::mpS bm ms' c'::L∧(k∉S→Hv ms' (k::S)))
def Kn:A3:=⟨19,[(.tmp 4)],(sR (o1 4 (.mv (.const (.bool false))) .done) (sR (om 5 0<|o1 6 (.nilc 5)<|oj 7 1 6<|ol 8 7<|om 9 1<|o1 10 (.mop (.lk 0 (vZ 0) false 8 9))<|ob 11 .add 10 z1<|o0 (.mop (.up 0 8 9 11)) .done) (sR (om 12 0<|o1 13 (.nilc 12)<|oj 14 1 13<|ol 15 14<|om 16 1<|o1 17 (.mop (.lk 0 (vZ 0) false 15 16))<|ob 18 .eql 17 z1<|om 4 18 .done) .ret)))⟩
def Zu{P f}(hd:dec P f=some Kn):NB P f:=by
 intro d bc bm n c Tc pv ms S k L hs;refine AK hd (Aca Z) ?_;show gwp P _ _ _ _ _;have hk:=hs k;by_cases hm:k∈S
 ·rw[if_pos hm] at hk;rw[decide_eq_false (fun q=>q hm)];refine Ad<|Af Z<|Aa<|Ad<|Ah Z<|AJ Z<|Aj Z<|Ai Z (Aq 0 Z Z)<|Ac Z<|Qi (kE:=kI) (vE:=kI) (k:=k) Ix 1 Z Z Z hk ?_;(apply AY;rfl;rfl;omega;omega);refine Qs (kE:=kI) (vE:=kI) (k:=k) (v:=2) Ix 1 Z Z Z Z ?_;refine Aa<|Ad<|Ah Z<|AJ Z<|Aj Z<|Ai Z (Aq 0 Z Z)<|Ac Z<|Qi (kE:=kI) (vE:=kI) (k:=k) (v:=2) Ix 1 Z Z Z (by rw[JF,if_pos Z]) ?_;(refine AT Z Z<|Af Z<|Aa<|Ao ?_);exact Ci Z (Acd _) ⟨Z,Z,_,_,Z,fun q=>absurd hm q⟩
 ·rw[if_neg hm] at hk;rw[decide_eq_true hm];refine Ad<|Af Z<|Aa<|Ad<|Ah Z<|AJ Z<|Aj Z<|Ai Z (Aq 0 Z Z)<|Ac Z<|Aat (kE:=kI) (vE:=kI) (k:=k) Ix 1 Z Z Z hk ?_;(apply AY;rfl;rfl;omega;omega);refine Qs (kE:=kI) (vE:=kI) (k:=k) (v:=1) Ix 1 Z Z Z Z ?_;refine Aa<|Ad<|Ah Z<|AJ Z<|Aj Z<|Ai Z (Aq 0 Z Z)<|Ac Z<|Qi (kE:=kI) (vE:=kI) (k:=k) (v:=1) Ix 1 Z Z Z (by rw[JF,if_pos Z]) ?_;(refine AT Z Z<|Af Z<|Aa<|Ao ?_);exact Ci Z (Acd _) ⟨Z,Z,_,_,Z,fun _ k'=>by
   rw[JF];by_cases q:k'=k
   ·rw[if_pos q,if_pos (by rw[q];exact Acm ..)]
   ·rw[if_neg q,hs k'];by_cases r:k'∈S
    ·rw[if_pos r,if_pos (Aco _ r)]
    ·rw[if_neg r,if_neg (fun e=>(Acw.1 e).elim q r)]⟩
def Pe{s}{tc size n:Nat}:∀(m:Nat) (k:Int) (l:List Int) (out:List UInt8),CA {s with tc:=tc} size n k l out m=CA s size n k l out m
 |0,k,l,out=>rfl
 |m+1,k,l,out=>by
  rw[CA,CA];simp only[Pe m];rfl
def Wr{s}{n:Nat}{k size:Int}:Chn.Bq (wtc s n) k size=Chn.Bq s k size:=by
 unfold Chn.Bq;split
 ·exact Pe ..
 ·rfl
def Ko(P:Program)(f:FuncId):Prop:=∀{d s}{bc bm n c:Nat}{Tc dv pv w}{ms:List (Int×Int×Nat)}{S:List Int}{b L},PgT d s dv pv L→Hv ms S→AH d w b→
 AB P f [pZ bc,w] d (ckB bc Tc pv bm n::mpS bm ms c::L) (Ret fun v d' L'=>Le d d'∧v=vZ (Dw s S b).2∧∃ms' c' L2,L'=ckB bc Tc pv bm n::mpS bm ms' c'::L2∧PgT d' s dv pv L2∧((Dw s S b).2=0→Hv ms' (Dw s S b).1))
def XX{S:List Int}:FE S []=(S,true):=Z
def J0(a0 a1 a2:Nat):A3:=⟨55,[(.tmp 4)],(sR (o1 4 (.mv z0) .done) (.seq (sR (om 12 1<|oL 13 12<|ob 14 .gtr 13 z0<|om 15 14<|gT 16 15 1<|oT 17 15 (.idx 1 16 z0)<|oT 18 15 (.ld none 17)<|oT 19 15 (.bin .eql 18 (.const (.int .u8 0)))<|gP 20 15 19 .done) (.cond 20 (sR (o1 4 (.mv z0) .done) .ret) .skip)) (sR (om 22 1<|oc 23 a0 [22]<|om 21 23<|oe 24 21 0<|oe 25 21 1<|oe 26 21 2<|om 5 24<|om 6 25<|om 7 26 .done) (.seq (sR (om 27 7<|o1 28 (.un .not 27)<|om 29 28<|gF 30 29 6<|oF 31 29 (.bin .leq 30 (kZ 15))<|o1 32 (.pick 29 (.const (.bool true)) 31) .done) (.cond 32 (sR (o1 4 (.mv (kZ 200)) .done) .ret) .skip)) (sR (om 34 0<|o1 35 (.nilc 34)<|oj 36 0 35<|ol 37 36<|om 38 5<|om 39 6<|oc 40 a1 [37,38,39]<|om 33 40<|oe 41 33 0<|oe 42 33 1<|om 8 41<|om 9 42 .done) (.seq (sR (om 43 8<|oL 44 43<|o1 45 (.mv z0) .done) (.block 0 (.loop (sR (ob 46 .lss 45 44 .done) (.seq (.cond 46 .skip (.exit 0)) (.seq (.block 1 (sR (oI 47 1 43 45<|ol 48 47<|om 11 48 .done) (sR (om 49 0<|om 50 11<|oc 51 a2 [49,50]<|o1 52 (.un .not 51) .done) (.cond 52 (sR (o1 4 (.mv (kZ 200)) .done) .ret) .skip)))) (rG (ob 53 .add 45 z1<|om 45 53 .done)))))))) (sR (om 54 9<|om 4 54 .done) .ret)))))))⟩
set_option maxRecDepth 4000 in
def TX{P f f1 f2 f3}(hd:dec P f=some (J0 f1 f2 f3))(h1:JJ P f1)(h2:OL P f2)(h3:NB P f3):Ko P f:=by
 intro d s bc bm n c Tc dv pv w ms S b L hp hs hw;have hwl:=hw.Bt;have hfw:=h1 hw;obtain⟨bp,rfl⟩:∃bp,pv=pZ bp:=hp.ptr;obtain⟨a,c0,rfl⟩:=RSl.val hw;refine AK hd (Aca Z) ?_;show gwp P _ _ _ _ _;by_cases hi:inB b=true
 ·have h0:0<b.length:=by unfold inB at hi;simp at hi;exact hi.1
  have g0:=Cp (b:=b) (i:=0) h0;have e0:b[0]=0:=by unfold inB at hi;rw[g0] at hi;simp at hi;exact hi.2
  have hb0:=O0 (b:=b) Z h0 (n:=0) (by rw[g0,e0];rfl);have hF:Dw s S b=(S,0):=by unfold Dw;rw[if_pos hi]
  rw[hF];clear hi hF;(refine Ad<|Ac Z<|Aa<|Ag<|Ad<|Ak Z<|AO Z<|Bb Z Z<|Af Z<|A4 Z (by omega)<|Ae Z<|Ak Z<|Ae Z<|A0 (sz:=1) (R:=AE) (by rfl) (by assumption) (by rfl) Z (by omega) ?_;rintro _ _ _ _ _ rfl;refine Ae Z<|Ai Z (Bp (by assumption) Z)<|Ae Z<|AT Z Z<|Ay Z Z<|Aa<|AF Z (by omega)<|Ad<|Ac Z<|Aa<|Ao ?_);exact Ci Z (Acd _) ⟨Le.refl _,Z,ms,c,L,Z,hp,fun _=>hs⟩
 ·have hi0:inB b=false:=by simpa using hi
  apply Ag;apply AI;apply Ac;rfl;apply Aa;apply Ag;refine HM (fun ρ d5 L5=>d5=d∧Bk ρ [(0,pZ bc),(1,.slice a b.length c0)]∧L5=ckB bc Tc (pZ bp) bm n::mpS bm ms c::L) ?_ ?_
  ·by_cases h0:0<b.length
   ·have g0:=Cp (b:=b) (i:=0) h0;have e0:b[0]≠0:=fun q=>by unfold inB at hi;rw[g0] at hi;simp[h0,q] at hi
    have hb0:=O0 (b:=b) Z h0 (n:=_) (congrArg UInt8.toNat g0);have hb1:b[0].toNat≠0:=fun q=>e0 (UInt8.toNat_inj.1 q);clear hi hi0;(refine Ad<|Ak Z<|AO Z<|Bb Z Z<|Af Z<|A4 Z (by omega)<|Ae Z<|Ak Z<|Ae Z<|A0 (sz:=1) (R:=AE) (by rfl) (by assumption) (by rfl) Z (by omega) ?_;rintro _ _ _ _ _ rfl;refine Ae Z<|Ai Z (Bp (by assumption) Z)<|Ae Z<|AT Z Z<|Ay Z Z<|Aa<|Aw Z (by omega)<|Al ?_);exact⟨Z,⟨Z,Z,trivial⟩,Z⟩
   ·clear hi hi0;(refine Ad<|Ak Z<|AO Z<|Bb Z Z<|Af Z<|A1 Z (by omega)<|Am Z<|Am Z<|Am Z<|Am Z<|Av Z Z<|Aa<|AS Z<|Al ?_);exact⟨Z,⟨Z,Z,trivial⟩,Z⟩
  rintro ρ d5 L5 ⟨hdd,hsl,hL⟩;subst hdd;subst hL;show gwp P _ _ _ _ _;refine CY _ hsl ?_;clear hsl;cases hf:EK b with
  |false=>
   have hF:Dw s S b=(S,200):=by unfold Dw;rw[if_neg hi,if_neg (fun q=>by rw[hf] at q;cases q.1)]
   rw[hF]
   rw[hf,if_neg (by decide),if_neg (by decide)] at hfw
   clear hi hi0 hf hF
   (refine Ad<|Ak Z ?_)
   refine Br Z hfw ?_
   (refine AU Z<|Ap Z Z<|Ap Z Z<|Ap Z Z<|Ac Z<|Ac Z<|Af Z<|Aa<|Ag<|Ad<|Af Z<|Bd Z<|Af Z<|Am Z<|Am Z<|Ay Z Z<|Aa<|A8 Z<|Ad<|Ac Z<|Aa<|Ao ?_)
   exact Ci Z (Acd _) ⟨Le.refl _,Z,ms,c,L,Z,hp,fun q=>absurd (show(200:Int)=0 from q) (by decide)⟩
  |true=>
   rw[hf,if_pos Z,if_pos Z] at hfw
   by_cases h15:(DL b:Int)≤15
   ·have hF:Dw s S b=(S,200):=by unfold Dw;rw[if_neg hi,if_neg (fun q=>by omega)]
    rw[hF]
    clear hi hi0 hf hF
    (refine Ad<|Ak Z ?_)
    refine Br Z hfw ?_
    (refine AU Z<|Ap Z Z<|Ap Z Z<|Ap Z Z<|Ac Z<|Ac Z<|Af Z<|Aa<|Ag<|Ad<|Af Z<|Bd Z<|Af Z<|Ae Z<|Ac Z<|Ae Z<|Gt Z Z<|Av Z Z<|Aa<|AF Z (by omega)<|Ad<|Ac Z<|Aa<|Ao ?_)
    exact Ci Z (Acd _) ⟨Le.refl _,Z,ms,c,L,Z,hp,fun q=>absurd (show(200:Int)=0 from q) (by decide)⟩
   ·obtain⟨R,hR⟩:∃R,Bq s (EJ b) (DL b)=R:=⟨_,Z⟩
    have hF:Dw s S b=((FE S R.1).1,if (FE S R.1).2=true then R.2.2 else 200):=by unfold Dw;rw[if_neg hi,if_pos ⟨hf,by omega⟩,hR]
    rw[hF]
    clear hi hi0 hf hF
    (refine Ad<|Ak Z ?_)
    refine Br Z hfw ?_
    (refine AU Z<|Ap Z Z<|Ap Z Z<|Ap Z Z<|Ac Z<|Ac Z<|Af Z<|Aa<|Ag<|Ad<|Af Z<|Bd Z<|Af Z<|Ae Z<|Ac Z<|Ae Z<|Gt Z Z<|Av Z Z<|Aa<|Aw Z (by omega)<|Al<|Ad<|Ah Z<|AJ Z<|Aj Z<|Ai Z (Aq 0 Z Z)<|Ac Z<|Ac Z ?_)
    obtain⟨n0,hp0⟩:=hp
    refine Be [_,_] (h2 (k:=EJ b) (size:=DL b) hp0) Z Z (fun v d2 L2 hl ⟨_,u,tc,e1,hu,hp2⟩=>?_)
    rw[Wr,hR] at e1 hu
    subst e1
    obtain⟨ua,uc,rfl⟩:=RSl.val hu
    have hp2:Pg d2 (wtc s tc) dv (pZ bp) L2:=hp2
    obtain⟨l,o,e⟩:=R
    simp only at hu⊢
    have hll:=RSl.Bt hu
    (refine AU Z<|Ap Z Z<|Ap Z Z<|Ak Z<|Ac Z<|Aa<|Ag<|Ad<|Ak Z<|AO Z<|Ac Z<|Aa<|Az ?_)
    obtain⟨R,hR2⟩:∃R,FE S l=R:=⟨_,Z⟩
    rw[hR2]
    clear hR
    refine BM (α:=Nat×List Int×List (Int×Int×Nat)×Nat) (fun x=>[(0,pZ bc),(9,vZ e),(43,.slice ua l.length uc),(44,vZ l.length),(45,vZ x.1)])
     (fun x d' L'=>d'=d2∧x.1≤l.length∧FE x.2.1 (l.drop x.1)=R∧Hv x.2.2.1 x.2.1∧L'=ckB bc Tc (pZ bp) bm n::mpS bm x.2.2.1 x.2.2.2::L2) (fun x=>l.length - x.1) (0,S,ms,c) ⟨Z,Z,Z,Z,Z,trivial⟩ ⟨Z,Adf _,hR2,hs,Z⟩ ?_
    rintro⟨i,S1,ms1,c1⟩ ρ d' L' ⟨rfl,hi,hS1,hs1,rfl⟩
    simp only at hi hS1 hs1⊢
    by_cases e1:i<l.length
    ·rw[Acu e1,FE] at hS1
     (refine Ad<|AA Z Z<|Aa<|Ag<|AF Z (by omega)<|Al<|Ag<|Az<|Ad<|A0 (sz:=1) (R:=A7) (by rfl) (by assumption) (by rfl) Z (by omega) ?_;rintro _ _ _ _ _ ⟨rfl,_,_⟩;refine Ai Z (Bp (by assumption) Z)<|Ac Z<|Aa<|Ad<|Ah Z<|Ac Z ?_)
     by_cases hm:l[i]∈S1
     ·rw[if_pos hm] at hS1
      subst hS1
      skip
      refine Be [] (h3 (L:=L2) (k:=l[i]) (n:=n) (c:=c1) hs1) Z Z (fun v d4 L4 hl4 ⟨q1,q2,ms4,c4,q3,_⟩=>?_)
      rw[decide_eq_false (fun q=>q hm)] at q2
      subst q1;subst q2;subst q3
      rw[if_neg (by simp)]
      (refine Bd Z<|Aa<|A8 Z<|Ad<|Ac Z<|Aa<|Ao ?_)
      exact Ci Z (Acd _) ⟨hl,Z,_,_,L2,Z,⟨tc,hp2⟩,fun q=>absurd (show(200:Int)=0 from q) (by decide)⟩
     ·rw[if_neg hm] at hS1
      skip
      refine Be [] (h3 (L:=L2) (k:=l[i]) (n:=n) (c:=c1) hs1) Z Z (fun v d4 L4 hl4 ⟨q1,q2,ms4,c4,q3,hs4⟩=>?_)
      rw[decide_eq_true hm] at q2
      subst q1;subst q2;subst q3
      (refine Bd Z<|Aa<|AS Z<|Al<|AI<|AY Z Z (by omega) (by omega)<|Ac Z<|Aa ?_)
      exact⟨(i+1,l[i]::S1,ms4,c4),by show l.length - (i+1)<l.length - i;omega,⟨Z,Z,Z,Z,Z,trivial⟩,Z,e1,hS1,hs4 hm,Z⟩
    ·rw[List.drop_eq_nil_of_le (by omega),XX] at hS1
     subst hS1
     rw[if_pos Z]
     (refine Ad<|AA Z Z<|Aa<|Ag<|Aw Z (by omega)<|Ba<|Ad<|Ac Z<|Ac Z<|Aa<|Ao ?_)
     exact Ci Z (Acd _) ⟨hl,Z,_,_,L2,Z,⟨tc,hp2⟩,fun _=>hs1⟩
end Go.Gk.Tre
end
