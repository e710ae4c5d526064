/-
  Our own texts, one behind the other: GkWC GkWD GkWE GkTrH GkWF GkWG GkTr9 GkTrL GkTrM GkTrN GkTY GkWH GkTrI GkTrJ GkTrO GkWI GkUB GkUC.
-/
import Derived.Test.YteekdjalpmjdhaaGreatPrF
set_option linter.defProp false
open Nat renaming le_of_ble_eq_true→Ada,le_refl→Adi,succ_ne_zero→Aeh,zero_le→Aej,mul_one→Afn,le_trans→Agx
open List.Sublist renaming refl→Adb
open Bool renaming and_eq_true→Adc,false_eq_true→Adk,true_and→Agg
open List renaming getElem?_eq_getElem→Ade,append_assoc→Adf,mem_append→Adg,getD_eq_getElem?_getD→Adh,length_append→Adj,perm_append_comm→Adl,length_cons→Adm,eq_nil_of_length_eq_zero→Adn,mem_cons_self→Ado,mem_cons_of_mem→Adp,mem_singleton→Adq,mem_cons→Adu,mem_append_left→Adw,mem_append_right→Ady,length_take→Adz,perm_iff_count→Aeb,getElem_mem→Aec,append_nil→Aed,count_append→Aeg,nil_append→Ael,length_nil→Aem,length_set→Aen,count_cons→Aeo,perm_middle→Aep,length_replicate→Aet,exists_cons_of_ne_nil→Aev,cons_append→Aex,getElem_of_mem→Aez,nodup_append→Afl,nodup_cons→Afo,getElem?_map→Afq,count_nil→Afs,getD_cons_zero→Afx,getD_cons_succ→Afy,mem_map_of_mem→Agq,eraseIdx_sublist→Ahj,mem_map→Ahq
open List.Perm renaming cons→Ads,swap→Aee,refl→Aeq,append_left→Ahg,nodup_iff→Aik
section
namespace Go.Gk.Tre
open Go Go.Gk Go.Gk.Dev Go.Gk.Cch Go.Gk.Pgr Go.Gk.Chn Go.Gk.Node
variable{h z:Nat}{s t:PD}{c v key:List UInt8}{P cs Q:List Int}{l l1:List KV}{ks:List (List UInt8)}{n:Az}{lf:Bool}
def Ce(s:PD)(c v:List UInt8)(P:List Int):Prop:=(v.length≤15∧c=0::v∧P=[])∨(15<v.length∧v.length≤16384∧Gf s v P∧c=Gu (P.getD 0 0) v.length)
def Jl{x:Int}(_:0≤x):(bI x).toNat=(x % 256).toNat:=by
 unfold bI;rw[UInt8.toNat_ofNat'];omega
def NT{h n:Int}:Ex (Gu h n)=true:=by simp[Ex,Gu]
def PL{h n:Int}:inB (Gu h n)=false:=by simp[inB,Gu]
def Oc{h n:Int}(h0:0≤h)(h1:h<65536):((DR (Gu h n):Nat):Int)=h:=by
 unfold DR Gu;simp only[Afx,Afy];rw[Jl (by omega),Jl h0];omega
def J6{h:Int}{n:Nat}(h1:n<4294967296):Dt (Gu h n)=n:=by
 unfold Dt Gu;simp only[Afx,Afy];rw[Jl (by omega),Jl (by omega),Jl (by omega),Jl (by omega)];omega
def Ce.len(h:Ce s c v P):c.length≤16:=by
 rcases h with ⟨h1,rfl, -⟩|⟨-, -, -,rfl⟩
 ·simp;omega
 ·simp[Gu]
def Ce.live(h:Ce s c v P):∀k∈P,A4 s k:=by
 rcases h with ⟨-, -,rfl⟩|⟨-, -,h, -⟩
 ·exact fun k hk=>by cases hk
 ·intro k hk;obtain⟨j,hj,rfl⟩:=Aez hk;exact h.live j hj
def Ce.stay(h:Ce s c v P)(hs:∀k∈P,t.kind k=s.kind k∧t.bytes k=s.bytes k):Ce t c v P:=by
 rcases h with h|⟨h1,h2,h3,h4⟩
 ·exact .inl h
 ·exact .inr ⟨h1,h2,h3.stay hs,h4⟩
def Kj(h:Gf s v P):0≤P.getD 0 0∧P.getD 0 0<65535:=by
 have h0:0<P.length:=by rw[h.len];exact Rf
 rw[Ic h0];exact h.rng _ (Aec h0)
def Ce.val(h:Ce s c v P):DQ s c=(v,0):=by
 unfold DQ;rcases h with ⟨h1,rfl, -⟩|⟨h1,h2,h3,rfl⟩
 ·rw[if_pos (by simp[inB])];rfl
 ·obtain⟨q1,q2⟩:=Kj h3;rw[if_neg (by rw[PL];decide),if_pos NT,J6 (by omega),Oc q1 (by omega),Ji h3 h2]
def Ce.Gs(h:Ce s c v P):Gs c=if 15<v.length then AQ v.length else 0:=by
 unfold Tre.Gs;rcases h with ⟨h1,rfl, -⟩|⟨h1,h2,h3,rfl⟩
 ·rw[if_pos (by simp[inB]),if_neg (by omega)]
 ·rw[if_neg (by rw[PL];decide),if_pos h1,J6 (by omega)]
def O9:∀{l:List Int}{s},Pgr.Good s→(∀k∈l,A4 s k)→l.Nodup→(DI s l).2=0∧Mv s (DI s l).1 l [] 0
 |[],s,hG,_,_=>⟨rfl,Mv.refl hG⟩
 |k::l,s,hG,hl,hn=>by
  obtain⟨n1,n2⟩:=Afo.1 hn;obtain⟨d1,d2⟩:=FI hG (hl k (Ado ..));have hne:∀p∈l,p∉ [k]:=fun p hp q=>n1 (Adq.1 q▸hp);obtain⟨k1,k2⟩:=O9 (l:=l) d2.gd (fun p hp=>(d2.lv p).2 (.inl ⟨hl p (Adp _ hp),hne p hp⟩)) n2;rw[DI,if_pos d1];refine⟨k1,?_⟩
  have:=d2.then (R:=l) k2 (Aeq _) (fun p hp=>hl p (Adp _ hp)) n2 hne;exact this
def Ce.VQ(hG:Pgr.Good s)(h:Ce s c v P)(hn:P.Nodup):(BP s c).2=0∧Mv s (BP s c).1 P [] 0:=by
 have hl:=h.live;unfold BP;rcases h with ⟨h1,rfl,rfl⟩|⟨h1,h2,h3,rfl⟩
 ·rw[if_pos (by simp[inB])];exact⟨rfl,Mv.refl hG⟩
 ·obtain⟨q1,q2⟩:=Kj h3;rw[if_neg (by rw[PL];decide),if_pos NT,J6 (by omega),Oc q1 (by omega)];unfold DZ;rw[Ji h3 h2,if_pos rfl];exact O9 hG hl hn
def JZ:∀(n:Nat) {s}(l:List Int),Pgr.Good s→Pgr.Good (BY s l n).1
 |0,s,l,h=>h
 |n+1,s,l,h=>by
  rw[BY];split
  ·exact JZ n _ (FM h)
  ·exact FM h
def Px:∀(l:List Int) {s},Pgr.Good s→Pgr.Good (DF s l)
 |[],_,h=>h
 |k::l,_,h=>Px l (IZ h k)
def Q7(h:Pgr.Good s){l:List Int}{b}:∀i,Pgr.Good (Chn.DH s l b i)
 |0=>h
 |i+1=>IA (Q7 h i) _ _
def W9(h:Pgr.Good s){b}:Pgr.Good (Cd s b).1:=by
 have ht:Pgr.Good (Chn.BC s (AQ b.length)).1:=by
  unfold Chn.BC;split
  ·exact JZ _ _ h
  ·exact Px _ (JZ _ _ h)
 unfold Cd;dsimp only;split
 ·exact Q7 ht _
 ·exact ht
def AaH(hG:Pgr.Good s)(hv:v.length≤16384):
  ((BZ s v).2.2=0∧∃P,Mv s (BZ s v).1 [] P (AQ v.length)∧Ce (BZ s v).1 (BZ s v).2.1 v P)∨((BZ s v).2.2=190∧s.free<AQ v.length):=by
 have hg:Pgr.Good (BZ s v).1:=by
  unfold BZ;split
  ·exact hG
  ·exact W9 hG
 unfold BZ at*
 by_cases h:v.length≤15
 ·rw[if_pos h] at*
  exact .inl ⟨rfl,[],(Mv.refl hG).mono (Aej _),.inl ⟨h,rfl,rfl⟩⟩
 ·rw[if_neg h] at*
  by_cases hr:AQ v.length≤s.free
  ·obtain⟨t,l,e,h1,h2,h3,h4,h5,h6⟩:=Xl hG hr
   rw[e] at hg⊢
   refine .inl ⟨rfl,l,⟨fun p=>?_,fun p hp hs=>?_,h6,fun p hs _=>?_,(by show s.free≤t.free+_;omega),hg⟩,.inr ⟨by omega,hv,h1,rfl⟩⟩
   ·by_cases q:p∈l
    ·have:=(h2 p q).1;simp[A4,q,this]
    ·have:=(h5 p q).1;simp[A4,q,this]
   ·have:=(h2 p hp).2
    rcases hs with hs|hs<;>omega
   ·refine h5 p (fun hp=>?_)
    have:=(h2 p hp).2
    rcases hs with hs|hs<;>omega
  ·obtain⟨t,e, -⟩:=Wn (b:=v) (show s.free<AQ v.length by omega)
   rw[e]
   exact .inr ⟨rfl,by omega⟩
def Lf(s:PD):List (List UInt8)→List (List UInt8)→List KV→List Int→Prop
 |[],[],l,P=>l=[]∧P=[]
 |k::ks,c::cs,l,P=>∃v l' P1 P2,l=(k,v)::l'∧P=P1++P2∧Ce s c v P1∧Lf s ks cs l' P2
 |_,_,_,_=>False
def Lf.len:∀{ks vs l}{P:List Int},Lf s ks vs l P→vs.length=ks.length∧l.length=ks.length
 |[],[],l,P,h=>by rw[Lf] at h;rw[h.1];exact⟨rfl,rfl⟩
 |[],_::_,l,P,h=>by rw[Lf] at h<;>simp_all
 |_::_,[],l,P,h=>by rw[Lf] at h<;>simp_all
 |k::ks,c::cs,l,P,h=>by
  rw[Lf] at h;obtain⟨v,l',P1,P2,rfl,rfl,h1,h2⟩:=h;obtain⟨a,b⟩:=h2.len;simp[a,b]
def Lf.keys:∀{ks vs l}{P:List Int},Lf s ks vs l P→ks=l.map Prod.fst
 |[],[],l,P,h=>by rw[Lf] at h;rw[h.1];rfl
 |[],_::_,l,P,h=>by rw[Lf] at h<;>simp_all
 |_::_,[],l,P,h=>by rw[Lf] at h<;>simp_all
 |k::ks,c::cs,l,P,h=>by
  rw[Lf] at h;obtain⟨v,l',P1,P2,rfl,rfl,h1,h2⟩:=h;rw[List.map_cons,←h2.keys]
def Lf.join:∀{ks vs ks' vs' l l'}{P P':List Int},Lf s ks vs l P→Lf s ks' vs' l' P'→Lf s (ks++ks') (vs++vs') (l++l') (P++P')
 |[],[],ks',vs',l,l',P,P',h,h'=>by rw[Lf] at h;obtain⟨rfl,rfl⟩:=h;exact h'
 |[],_::_,ks',vs',l,l',P,P',h,h'=>by rw[Lf] at h<;>simp_all
 |_::_,[],ks',vs',l,l',P,P',h,h'=>by rw[Lf] at h<;>simp_all
 |k::ks,c::cs,ks',vs',l,l',P,P',h,h'=>by
  rw[Lf] at h;obtain⟨v,l1,P1,P2,rfl,rfl,h1,h2⟩:=h;rw[Aex,Aex,Lf];exact⟨v,l1++l',P1,P2++P',rfl,by rw[Adf],h1,h2.join h'⟩
def Lf.split:∀{ks vs ks' vs' l}{P:List Int},Lf s (ks++ks') (vs++vs') l P→vs.length=ks.length→∃l1 l2 P1 P2,l=l1++l2∧P=P1++P2∧Lf s ks vs l1 P1∧Lf s ks' vs' l2 P2
 |[],[],ks',vs',l,P,h,_=>⟨[],l,[],P,rfl,rfl,⟨rfl,rfl⟩,h⟩
 |[],_::_,ks',vs',l,P,h,e=>by cases e
 |_::_,[],ks',vs',l,P,h,e=>by cases e
 |k::ks,c::cs,ks',vs',l,P,h,e=>by
  rw[Aex,Aex,Lf] at h;obtain⟨v,l',P1,P2,rfl,rfl,h1,h2⟩:=h;obtain⟨l1,l2,Q1,Q2,rfl,rfl,k1,k2⟩:=h2.split (by simpa using e);exact⟨(k,v)::l1,l2,P1++Q1,Q2,rfl,by rw[Adf],⟨v,l1,P1,Q1,rfl,rfl,h1,k1⟩,k2⟩
def Lf.stay:∀{ks vs l}{P:List Int},Lf s ks vs l P→(∀k∈P,t.kind k=s.kind k∧t.bytes k=s.bytes k)→Lf t ks vs l P
 |[],[],l,P,h,_=>by rw[Lf] at h⊢;exact h
 |[],_::_,l,P,h,_=>by rw[Lf] at h<;>simp_all
 |_::_,[],l,P,h,_=>by rw[Lf] at h<;>simp_all
 |k::ks,c::cs,l,P,h,hs=>by
  rw[Lf] at h⊢;obtain⟨v,l',P1,P2,rfl,rfl,h1,h2⟩:=h;exact⟨v,l',P1,P2,rfl,rfl,h1.stay (fun k hk=>hs k (Adw _ hk)),h2.stay (fun k hk=>hs k (Ady _ hk))⟩
def Lf.live:∀{ks vs l}{P:List Int},Lf s ks vs l P→∀k∈P,A4 s k
 |[],[],l,P,h=>by rw[Lf] at h;rw[h.2];exact fun k hk=>by cases hk
 |[],_::_,l,P,h=>by rw[Lf] at h<;>simp_all
 |_::_,[],l,P,h=>by rw[Lf] at h<;>simp_all
 |k::ks,c::cs,l,P,h=>by
  rw[Lf] at h;obtain⟨v,l',P1,P2,rfl,rfl,h1,h2⟩:=h;intro k hk;rcases Adg.1 hk with q|q
  ·exact h1.live k q
  ·exact h2.live k q
def Lf.one{k}(h:Ce s c v P):Lf s [k] [c] [(k,v)] P:=⟨v,[],P,[],rfl,by simp,h,⟨rfl,rfl⟩⟩
def Lf.AbW{k}(h:Lf s [k] [c] l P):∃v,l=[(k,v)]∧Ce s c v P:=by
 rw[Lf] at h;obtain⟨v,l',P1,P2,rfl,rfl,h1,h2⟩:=h;rw[Lf] at h2;obtain⟨rfl,rfl⟩:=h2;exact⟨v,rfl,by simpa using h1⟩
abbrev RT:=Int→List KV→List Int→Prop
def Kd(R:RT):List (List UInt8)→List Int→List KV→List Int→Prop
 |[],[c],l,P=>R c l P
 |k::ks,c::cs,l,P=>∃l1 l2 P1 P2,l=l1++l2∧P=P1++P2∧R c l1 P1∧(∀x∈l1,Lt x.1 k)∧(∀x∈l2,¬Lt x.1 k)∧Kd R ks cs l2 P2
 |_,_,_,_=>False
def Kd.one{R:RT}{c:Int}:Kd R [] [c] l P↔R c l P:=Iff.rfl
def Kd.cons{R:RT}{k}{c:Int}:
  Kd R (k::ks) (c::cs) l P↔∃l1 l2 P1 P2,l=l1++l2∧P=P1++P2∧R c l1 P1∧(∀x∈l1,Lt x.1 k)∧(∀x∈l2,¬Lt x.1 k)∧Kd R ks cs l2 P2:=Iff.rfl
def Kd.len{R:RT}:∀{ks}{cs:List Int}{l}{P:List Int},Kd R ks cs l P→cs.length=ks.length+1
 |[],[c],l,P,_=>rfl
 |[],[],l,P,h=>h.elim
 |[],_::_::_,l,P,h=>h.elim
 |_::_,[],l,P,h=>h.elim
 |k::ks,c::cs,l,P,h=>by
  obtain⟨l1,l2,P1,P2,rfl,rfl,h1,h2,h3,h4⟩:=Kd.cons.1 h;simp[h4.len]
def Kd.mono{R R':RT}:∀{ks}{cs:List Int}{l}{P:List Int},Kd R ks cs l P→(∀c l Q,(∀k∈Q,k∈P)→R c l Q→R' c l Q)→Kd R' ks cs l P
 |[],[c],l,P,h,hR=>hR c l P (fun _ h=>h) h
 |[],[],l,P,h,_=>h.elim
 |[],_::_::_,l,P,h,_=>h.elim
 |_::_,[],l,P,h,_=>h.elim
 |k::ks,c::cs,l,P,h,hR=>by
  obtain⟨l1,l2,P1,P2,rfl,rfl,h1,h2,h3,h4⟩:=Kd.cons.1 h;exact Kd.cons.2 ⟨l1,l2,P1,P2,rfl,rfl,hR _ _ _ (fun k hk=>Adw _ hk) h1,h2,h3,h4.mono (fun c l Q hQ=>hR c l Q (fun k hk=>Ady _ (hQ k hk)))⟩
def Kd.split{R:RT}:∀{ks ks' k}{cs cs':List Int}{l}{P:List Int},Kd R (ks++k::ks') (cs++cs') l P→cs.length=ks.length+1→(∀x∈ks,Lt x k)→
  ∃l1 l2 P1 P2,l=l1++l2∧P=P1++P2∧Kd R ks cs l1 P1∧Kd R ks' cs' l2 P2∧(∀x∈l1,Lt x.1 k)∧∀x∈l2,¬Lt x.1 k
 |_,_,_,[],_,_,_,_,e,_=>by cases e
 |[],ks',k,[c],cs',l,P,h,_,_=>by
  obtain⟨l1,l2,P1,P2,rfl,rfl,h1,h2,h3,h4⟩:=Kd.cons.1 h;exact⟨l1,l2,P1,P2,rfl,rfl,h1,h4,h2,h3⟩
 |[],_,_,_::_::_,_,_,_,_,e,_=>by simp at e
 |k0::ks,ks',k,c::cs,cs',l,P,h,e,hk=>by
  obtain⟨l1,l2,P1,P2,rfl,rfl,h1,h2,h3,h4⟩:=Kd.cons.1 h;obtain⟨m1,m2,Q1,Q2,rfl,rfl,g1,g2,g3,g4⟩:=Kd.split h4 (by simpa using e) (fun x hx=>hk x (Adp _ hx));refine⟨l1++m1,m2,P1++Q1,Q2,by rw[Adf],by rw[Adf],Kd.cons.2 ⟨l1,m1,P1,Q1,rfl,rfl,h1,h2,fun x hx=>h3 x (Adw _ hx),g1⟩,g2,fun x hx=>?_,g4⟩
  rcases Adg.1 hx with q|q
  ·exact FP (h2 x q) (hk k0 (Ado ..))
  ·exact g3 x q
def Kd.join{R:RT}:∀{ks ks' k}{cs cs':List Int}{l l'}{P P':List Int},Kd R ks cs l P→Kd R ks' cs' l' P'→(∀x∈ks,Lt x k)→(∀x∈l,Lt x.1 k)→(∀x∈l',¬Lt x.1 k)→
  Kd R (ks++k::ks') (cs++cs') (l++l') (P++P')
 |[],ks',k,[c],cs',l,l',P,P',h,h',_,h1,h2=>Kd.cons.2 ⟨l,l',P,P',rfl,rfl,h,h1,h2,h'⟩
 |[],_,_,[],_,_,_,_,_,h,_,_,_,_=>h.elim
 |[],_,_,_::_::_,_,_,_,_,_,h,_,_,_,_=>h.elim
 |_::_,_,_,[],_,_,_,_,_,h,_,_,_,_=>h.elim
 |k0::ks,ks',k,c::cs,cs',l,l',P,P',h,h',hk,h1,h2=>by
  obtain⟨l1,l2,P1,P2,rfl,rfl,g1,g2,g3,g4⟩:=Kd.cons.1 h;refine Kd.cons.2 ⟨l1,l2++l',P1,P2++P',by rw[Adf],by rw[Adf],g1,g2,fun x hx=>?_,Kd.join g4 h' (fun x hx=>hk x (Adp _ hx)) (fun x hx=>h1 x (Ady _ hx)) h2⟩;rcases Adg.1 hx with q|q
  ·exact g3 x q
  ·exact fun e=>h2 x q (FP e (hk k0 (Ado ..)))
def Kd.btw{R:RT}(hR:∀c l P,R c l P→l≠[]):∀{ks}{cs:List Int}{l}{P:List Int},Kd R ks cs l P→l≠[]∧∀k∈ks,(∃x∈l,Lt x.1 k)∧∃x∈l,¬Lt x.1 k
 |[],[c],l,P,h=>⟨hR c l P h,fun k hk=>by cases hk⟩
 |[],[],l,P,h=>h.elim
 |[],_::_::_,l,P,h=>h.elim
 |_::_,[],l,P,h=>h.elim
 |k0::ks,c::cs,l,P,h=>by
  obtain⟨l1,l2,P1,P2,rfl,rfl,g1,g2,g3,g4⟩:=Kd.cons.1 h;obtain⟨i1,i2⟩:=Kd.btw hR g4;obtain⟨x1,r1,e1⟩:=Aev (hR _ _ _ g1);obtain⟨x2,r2,e2⟩:=Aev i1;refine⟨by simp[e1],fun k hk=>?_⟩
  rcases Adu.1 hk with rfl|hk
  ·exact⟨⟨x1,by simp[e1],g2 x1 (by simp[e1])⟩,x2,by simp[e2],g3 x2 (by simp[e2])⟩
  ·obtain⟨⟨y,y1,y2⟩,z,z1,z2⟩:=i2 k hk;exact⟨⟨y,Ady _ y1,y2⟩,z,Ady _ z1,z2⟩
def KL(R:RT)(ks:List (List UInt8))(cs:List Int)(l:List KV)(P:List Int):Prop:=(ks=[]∧cs=[]∧l=[]∧P=[])∨∃ks' k,ks=ks'++[k]∧Kd R ks' cs l P∧(∀x∈l,Lt x.1 k)
def KR(R:RT)(ks:List (List UInt8))(cs:List Int)(l:List KV)(P:List Int):Prop:=(ks=[]∧cs=[]∧l=[]∧P=[])∨∃k ks',ks=k::ks'∧Kd R ks' cs l P∧(∀x∈l,¬Lt x.1 k)
def KL.mono{R R':RT}(h:KL R ks cs l P)(hR:∀c l Q,(∀k∈Q,k∈P)→R c l Q→R' c l Q):KL R' ks cs l P:=by
 rcases h with h|⟨ks',k,e,h1,h2⟩
 ·exact .inl h
 ·exact .inr ⟨ks',k,e,h1.mono hR,h2⟩
def KR.mono{R R':RT}(h:KR R ks cs l P)(hR:∀c l Q,(∀k∈Q,k∈P)→R c l Q→R' c l Q):KR R' ks cs l P:=by
 rcases h with h|⟨ks',k,e,h1,h2⟩
 ·exact .inl h
 ·exact .inr ⟨ks',k,e,h1.mono hR,h2⟩
def KL.below{R:RT}(h:KL R ks cs l P):∀x∈l,∃k∈ks,Lt x.1 k:=by
 rcases h with ⟨_,_,rfl,_⟩|⟨ks',k,rfl,h1,h2⟩
 ·exact fun x hx=>by cases hx
 ·exact fun x hx=>⟨k,by simp,h2 x hx⟩
def KR.MJ{R:RT}(h:KR R ks cs l P):∀x∈l,∃k∈ks,¬Lt x.1 k:=by
 rcases h with ⟨_,_,rfl,_⟩|⟨k,ks',rfl,h1,h2⟩
 ·exact fun x hx=>by cases hx
 ·exact fun x hx=>⟨k,by simp,h2 x hx⟩
def Kd.focus{R:RT}{ka km kb}{ca cm cb:List Int}(h:Kd R (ka++km++kb) (ca++cm++cb) l P)(hk:KO (ka++km++kb))(e1:ca.length=ka.length)(e2:cm.length=km.length+1):
  ∃l1 m l2 P1 Pm P2,l=l1++m++l2∧P=P1++Pm++P2∧KL R ka ca l1 P1∧Kd R km cm m Pm∧KR R kb cb l2 P2∧(∀k∈ka,∀x∈m,¬Lt x.1 k)∧∀k∈kb,∀x∈m,Lt x.1 k:=by
 have hlen:=h.len
 simp only[Adj] at hlen
 obtain⟨hk1,hk2,hk3⟩:=KO.app.1 hk
 obtain⟨hk4,hk5,hk6⟩:=KO.app.1 hk1
 have right:∀{cm:List Int}{km l}{P:List Int},Kd R (km++kb) (cm++cb) l P→cm.length=km.length+1→KO (km++kb)→∃m l2 Pm P2,l=m++l2∧P=Pm++P2∧Kd R km cm m Pm∧KR R kb cb l2 P2∧∀k∈kb,∀x∈m,Lt x.1 k:=by
  intro cm km l P h e2 hk;cases kb with
  |nil=>
   have hl:=h.len
   simp only[Aed,Adj] at hl h
   have:cb=[]:=Adn (by omega)
   subst this
   rw[Aed] at h
   exact⟨l,[],P,[],by simp,by simp,h,.inl ⟨rfl,rfl,rfl,rfl⟩,fun k hk=>by cases hk⟩
  |cons k kb=>
   obtain⟨q1,q2,q3⟩:=KO.app.1 hk
   obtain⟨l1,l2,P1,P2,rfl,rfl,g1,g2,g3,g4⟩:=h.split e2 (fun x hx=>q3 x hx k (Ado ..))
   refine⟨l1,l2,P1,P2,rfl,rfl,g1,.inr ⟨k,kb,rfl,g2,g4⟩,fun k' hk' x hx=>?_⟩
   rcases Adu.1 hk' with rfl|hk'
   ·exact g3 x hx
   ·exact FP (g3 x hx) ((KO.cons.1 q2).2.2 k' hk')
 rcases List.eq_nil_or_concat ka with rfl|⟨ka',k,rfl⟩
 ·have:ca=[]:=Adn e1
  subst this
  simp only[Ael] at h hk
  obtain⟨m,l2,Pm,P2,rfl,rfl,g1,g2,g3⟩:=right h e2 hk
  exact⟨[],m,l2,[],Pm,P2,by simp,by simp,.inl ⟨rfl,rfl,rfl,rfl⟩,g1,g2,fun k hk=>(by cases hk),g3⟩
 ·have h:Kd R (ka'++k::(km++kb)) (ca++(cm++cb)) l P:=by simpa using h
  have hk:KO (ka'++k::(km++kb)):=by simpa using hk
  obtain⟨q1,q2,q3⟩:=KO.app.1 hk
  obtain⟨l1,l2,P1,P2,rfl,rfl,g1,g2,g3,g4⟩:=h.split (by simpa using e1) (fun x hx=>q3 x hx k (Ado ..))
  obtain⟨m,l2,Pm,P2,rfl,rfl,f1,f2,f3⟩:=right g2 e2 (KO.cons.1 q2).2.1
  refine⟨l1,m,l2,P1,Pm,P2,by simp,by simp,.inr ⟨ka',k,by simp,g1,g3⟩,f1,f2,fun k' hk' x hx=>?_,f3⟩
  have hx':=g4 x (Adw _ hx)
  rcases Adg.1 (show k'∈ka'++[k] by simpa using hk') with q|q
  ·exact fun e=>hx' (FP e (q3 k' q k (Ado ..)))
  ·rw[Adq.1 q];exact hx'
def Kd.Eu{R:RT}{ka km kb}{ca cm cb:List Int}{m l2}{P1 Pm P2:List Int}(h1:KL R ka ca l1 P1)(h2:Kd R km cm m Pm)(h3:KR R kb cb l2 P2)(hk:KO (ka++km++kb))
  (ha:∀k∈ka,∀x∈m,¬Lt x.1 k) (hb:∀k∈kb,∀x∈m,Lt x.1 k):Kd R (ka++km++kb) (ca++cm++cb) (l1++m++l2) (P1++Pm++P2):=by
 obtain⟨hk1,hk2,hk3⟩:=KO.app.1 hk
 obtain⟨hk4,hk5,hk6⟩:=KO.app.1 hk1
 have right:Kd R (km++kb) (cm++cb) (m++l2) (Pm++P2):=by
  rcases h3 with ⟨rfl,rfl,rfl,rfl⟩|⟨k,ks',rfl,g1,g2⟩
  ·simpa using h2
  ·exact h2.join g1 (fun x hx=>hk3 x (Ady _ hx) k (Ado ..)) (fun x hx=>hb k (Ado ..) x hx) g2
 rcases h1 with ⟨rfl,rfl,rfl,rfl⟩|⟨ks',k,rfl,g1,g2⟩
 ·simpa using right
 ·have hl2:∀x∈l2,¬Lt x.1 k:=fun x hx=>by
   obtain⟨k',q1,q2⟩:=h3.MJ x hx;exact fun e=>q2 (FP e (hk3 k (by simp) k' q1))
  have:=g1.join right (k:=k) (fun x hx=>(KO.app.1 hk4).2.2 x hx k (by simp)) g2 (fun x hx=>(Adg.1 hx).elim (ha k (by simp) x) (hl2 x))
  simpa using this
variable{R:RT}
def Nd(s:PD)(R:RT)(lf:Bool)(n:Az)(l:List KV)(Q:List Int):Prop:=n.leaf=lf∧if lf=true then Lf s n.keys n.vals l Q else Kd R n.keys n.kids l Q
def Tr(s:PD):Nat→RT
 |0,_,_,_=>False
 |h+1,k,l,P=>∃n Q,At s k n∧n.keys≠[]∧P=k::Q∧Nd s (Tr s h) (decide (h=0)) n l Q
def Nd.leaf(h:Nd s R true n l Q):n.leaf=true∧Lf s n.keys n.vals l Q:=by
 obtain⟨h1,h2⟩:=h;rw[if_pos rfl] at h2;exact⟨h1,h2⟩
def Nd.inner(h:Nd s R false n l Q):n.leaf=false∧Kd R n.keys n.kids l Q:=by
 obtain⟨h1,h2⟩:=h;rw[if_neg (by decide)] at h2;exact⟨h1,h2⟩
def Nd.mkl(h1:n.leaf=true)(h2:Lf s n.keys n.vals l Q):Nd s R true n l Q:=⟨h1,by rw[if_pos rfl];exact h2⟩
def Nd.mki(h1:n.leaf=false)(h2:Kd R n.keys n.kids l Q):Nd s R false n l Q:=⟨h1,by rw[if_neg (by decide)];exact h2⟩
def Kd.all{S:Int→Prop}(hR:∀c l P,R c l P→∀p∈P,S p):∀{ks}{cs:List Int}{l}{P:List Int},Kd R ks cs l P→∀p∈P,S p
 |[],[c],l,P,h=>hR c l P h
 |[],[],l,P,h=>h.elim
 |[],_::_::_,l,P,h=>h.elim
 |_::_,[],l,P,h=>h.elim
 |k::ks,c::cs,l,P,h=>by
  obtain⟨l1,l2,P1,P2,rfl,rfl,h1,h2,h3,h4⟩:=Kd.cons.1 h;intro p hp;exact(Adg.1 hp).elim (hR _ _ _ h1 p) (Kd.all hR h4 p)
def Tr.live:∀{h:Nat}{k:Int}{l}{P:List Int},Tr s h k l P→∀p∈P,A4 s p
 |0,k,l,P,h=>h.elim
 |h+1,k,l,P,⟨n,Q,h1,h2,e,h3⟩=>by
  subst e;intro p hp;rcases Adu.1 hp with rfl|hp
  ·exact h1.liv
  ·by_cases e:h=0
   ·rw[decide_eq_true e] at h3;exact h3.leaf.2.live p hp
   ·rw[decide_eq_false e] at h3;exact Kd.all (fun c l P q=>Tr.live q) h3.inner.2 p hp
def Nd.live(h3:Nd s (Tr s h) lf n l Q):∀p∈Q,A4 s p:=by
 cases lf with
 |true=>exact h3.leaf.2.live
 |false=>exact Kd.all (fun c l P q=>Tr.live q) h3.inner.2
def Tr.ne:∀{h:Nat}{k:Int}{l}{P:List Int},Tr s h k l P→l≠[]
 |0,k,l,P,h=>h.elim
 |h+1,k,l,P,⟨n,Q,h1,h2,e,h3⟩=>by
  by_cases e:h=0
  ·rw[decide_eq_true e] at h3;have:=h3.leaf.2.len.2;intro q;rw[q] at this;exact h2 (Adn this.symm)
  ·rw[decide_eq_false e] at h3;exact(Kd.btw (fun c l P q=>Tr.ne q) h3.inner.2).1
def CQ(s t:PD)(P:List Int):Prop:=∀p∈P,t.kind p=s.kind p∧t.bytes p=s.bytes p
def Nd.mono{R':RT}(h:Nd s R lf n l Q)(hs:CQ s t Q)(hR:∀c l P,(∀p∈P,p∈Q)→R c l P→R' c l P):Nd t R' lf n l Q:=by
 cases lf with
 |true=>exact .mkl h.leaf.1 (h.leaf.2.stay hs)
 |false=>exact .mki h.inner.1 (h.inner.2.mono hR)
def Tr.stay:∀{h:Nat}{k:Int}{l}{P:List Int},Tr s h k l P→CQ s t P→Tr t h k l P
 |0,k,l,P,h,_=>h.elim
 |h+1,k,l,P,⟨n,Q,h1,h2,e,h3⟩,hs=>by
  subst e;exact⟨n,Q,h1.stay (hs k (Ado ..)),h2,rfl,h3.mono (fun p hp=>hs p (Adp _ hp)) (fun c l P hP q=>q.stay (fun p hp=>hs p (Adp _ (hP p hp))))⟩
def Nd.stay(h3:Nd s (Tr s h) lf n l Q)(hs:CQ s t Q):Nd t (Tr t h) lf n l Q:=
 h3.mono hs (fun _ _ _ hP q=>q.stay (fun p hp=>hs p (hP p hp)))
def KL.stay(h3:KL (Tr s h) ks cs l Q)(hs:CQ s t Q):KL (Tr t h) ks cs l Q:=
 h3.mono (fun _ _ _ hP q=>q.stay (fun p hp=>hs p (hP p hp)))
def KR.stay(h3:KR (Tr s h) ks cs l Q)(hs:CQ s t Q):KR (Tr t h) ks cs l Q:=
 h3.mono (fun _ _ _ hP q=>q.stay (fun p hp=>hs p (hP p hp)))
def Mv.same{A B:List Int}{c:Nat}(h:Mv s t A B c)(h1:∀p∈Q,A4 s p)(h2:∀p∈Q,p∉A):CQ s t Q:=fun p hp=>h.st p (h1 p hp) (h2 p hp)
def Nd.join(hR:∀c l P,R c l P→l≠[]){a b:Az}{l2}{Q1 Q2:List Int}(ha:Nd s R lf a l1 Q1)(hb:Nd s R lf b l2 Q2)(sa:A0 a=true)(sb:A0 b=true)
  (h1:∀x∈l1,Lt x.1 key) (h2:∀x∈l2,¬Lt x.1 key) (hk:1≤key.length∧key.length≤64):
  Nd s R lf (BE a b key) (l1++l2) (Q1++Q2)∧A0 (BE a b key)=true∧AY (BE a b key)+2≤AY a+AY b+(if lf=true then 0 else 65)∧(BE a b key).leaf=lf∧
  ((BE a b key).keys=[]→lf=true∧a.keys=[]∧b.keys=[]):=by
 cases lf with
 |true=>
  obtain⟨a1,a2⟩:=ha.leaf
  obtain⟨b1,b2⟩:=hb.leaf
  have ea:=Dy sa a1
  have eb:=Dy sb b1
  have ka:=a2.keys
  have kb:=b2.keys
  have e:BE a b key=⟨true,a.keys++b.keys,a.vals++b.vals,[]⟩:=by unfold BE;rw[if_pos a1]
  rw[ea] at sa
  rw[eb] at sb
  obtain⟨s1,s2,s3⟩:=Ck.1 sa
  obtain⟨t1,t2,t3⟩:=Ck.1 sb
  have hso:A0 ⟨true,a.keys++b.keys,a.vals++b.vals,[]⟩=true:=by
   refine Ck.2 ⟨KO.app.2 ⟨s1,t1,fun x hx y hy=>?_⟩,by simp[s2,t2],fun v hv=>(Adg.1 hv).elim (s3 v) (t3 v)⟩;rw[ka] at hx;rw[kb] at hy;obtain⟨x',hx',rfl⟩:=Ahq.1 hx;obtain⟨y',hy',rfl⟩:=Ahq.1 hy;exact Ho (h1 x' hx') (h2 y' hy')
  rw[e]
  refine⟨.mkl rfl (a2.join b2),hso,?_,rfl,fun q=>⟨rfl,List.append_eq_nil_iff.1 q⟩⟩
  have za:=(congrArg AY ea).trans (size_leaf s2)
  have zb:=(congrArg AY eb).trans (size_leaf t2)
  rw[za,zb,size_leaf (by simp[s2,t2]),Cg,Cg,Adj,if_pos rfl]
  omega
 |false=>
  obtain⟨a1,a2⟩:=ha.inner
  obtain⟨b1,b2⟩:=hb.inner
  have ea:=C9 sa a1
  have eb:=C9 sb b1
  have e:BE a b key=⟨false,a.keys++[key]++b.keys,[],a.kids++b.kids⟩:=by unfold BE;rw[if_neg (by rw[a1];decide)]
  have ka:=(Kd.btw hR a2).2
  have kb:=(Kd.btw hR b2).2
  rw[ea] at sa
  rw[eb] at sb
  obtain⟨s1,s2,s3⟩:=Bs.1 sa
  obtain⟨t1,t2,t3⟩:=Bs.1 sb
  have ka':∀k∈a.keys,Lt k key:=fun k q=>by
   obtain⟨-,x,x1,x2⟩:=ka k q;exact E4 x2 (h1 x x1)
  have kb':∀k∈b.keys,Lt key k:=fun k q=>by
   obtain⟨⟨x,x1,x2⟩, -⟩:=kb k q;exact E4 (h2 x x1) x2
  have hso:A0 ⟨false,a.keys++[key]++b.keys,[],a.kids++b.kids⟩=true:=by
   refine Bs.2 ⟨?_,by simp[s2,t2];omega,fun v hv=>(Adg.1 hv).elim (s3 v) (t3 v)⟩;rw[Adf];refine KO.app.2 ⟨s1,KO.cons.2 ⟨hk,t1,kb'⟩,fun x hx y hy=>?_⟩;rcases Adu.1 hy with rfl|hy
   ·exact ka' x hx
   ·exact FP (ka' x hx) (kb' y hy)
  rw[e]
  refine⟨.mki rfl ?_,hso,?_,rfl,fun q=>by simp at q⟩
  ·show Kd R (a.keys++[key]++b.keys) (a.kids++b.kids) _ _
   rw[Adf]
   exact a2.join b2 ka' h1 h2
  ·have za:=(congrArg AY ea).trans size_inner
   have zb:=(congrArg AY eb).trans size_inner
   rw[za,zb,size_inner,Cg,Cg,Adj,Adj,Adj,if_neg (by decide)]
   simp only[Cz,List.length_singleton]
   omega
def Jg(hc:Dj n=true):(AZ n).leaf=n.leaf:=by
 unfold AZ;rw[if_pos hc];cases h:n.leaf<;>simp
def Nq(hc:Dj n=true):(Bc n).leaf=n.leaf:=by
 unfold Bc;rw[if_pos hc];cases h:n.leaf<;>simp
def Vf(hc:Dj n=true):BD n∈n.keys:=by
 obtain⟨h1, -⟩:=N4 n;unfold BD;rw[if_pos hc];simp only[Dj,Adc,decide_eq_true_eq] at hc;have hm:=hc.2;have:(if n.leaf=true then atD n else at2 n - 1)<n.keys.length:=by
  cases hl:n.leaf with
  |true=>rw[hl] at hm;simp only[if_true] at hm⊢;omega
  |false=>rw[hl] at hm;simp only[Adk,if_false,at2] at hm⊢;omega
 rw[Adh,Ade this];exact Aec this
def Nu(h:Bm n=true):A0 n=true:=by simp only[Bm,Adc] at h;exact h.1
def Nd.split(hn:Nd s R lf n l Q)(hs:A0 n=true)(hc:Dj n=true)(hH:Pl n):
  ∃l1 l2 Q1 Q2,l=l1++l2∧Q=Q1++Q2∧Nd s R lf (AZ n) l1 Q1∧Nd s R lf (Bc n) l2 Q2∧(∀x∈l1,Lt x.1 (BD n))∧(∀x∈l2,¬Lt x.1 (BD n))∧1≤(BD n).length∧(BD n).length≤64:=by
 have hkm:=Vf hc
 have eL:=Jg hc
 have eR:=Nq hc
 have sL:=Nu hH.r1
 have sR:=Nu hH.r2
 have hall:=hH.all
 have hlo:∀k∈(AZ n).keys,Lt k (BD n):=fun k hk=>by
  obtain⟨i,hi,rfl⟩:=Aez hk;exact hH.lo i hi
 have hhi:∀k∈(Bc n).keys,¬Lt k (BD n):=fun k hk=>by
  obtain⟨i,hi,rfl⟩:=Aez hk;rcases hH.hi i hi with q|⟨q,_⟩
  ·exact VF q
  ·rw[q];exact Iz
 cases lf with
 |true=>
  obtain⟨n1,n2⟩:=hn.leaf
  have ho:1≤(BD n).length∧(BD n).length≤64:=by
   rw[Dy hs n1] at hs;exact(Ck.1 hs).1.1 _ hkm
  rw[n1] at eL eR
  unfold BE at hall
  rw[if_pos eL] at hall
  have k1:(AZ n).keys++(Bc n).keys=n.keys:=congrArg Az.keys hall
  have k2:(AZ n).vals++(Bc n).vals=n.vals:=congrArg Az.vals hall
  rw[←k1,←k2] at n2
  have hL:(AZ n).vals.length=(AZ n).keys.length:=by
   rw[Dy sL eL] at sL;exact(Ck.1 sL).2.1
  obtain⟨l1,l2,Q1,Q2,rfl,rfl,g1,g2⟩:=n2.split hL
  refine⟨l1,l2,Q1,Q2,rfl,rfl,.mkl eL g1,.mkl eR g2,fun x hx=>hlo _ ?_,fun x hx=>hhi _ ?_,ho⟩
  ·rw[g1.keys];exact Agq hx
  ·rw[g2.keys];exact Agq hx
 |false=>
  obtain⟨n1,n2⟩:=hn.inner
  have ho:1≤(BD n).length∧(BD n).length≤64:=by
   rw[C9 hs n1] at hs;exact(Bs.1 hs).1.1 _ hkm
  rw[n1] at eL eR
  unfold BE at hall
  rw[if_neg (by rw[eL];decide)] at hall
  have k1:(AZ n).keys++[BD n]++(Bc n).keys=n.keys:=congrArg Az.keys hall
  have k2:(AZ n).kids++(Bc n).kids=n.kids:=congrArg Az.kids hall
  rw[←k1,←k2,Adf] at n2
  have hL:(AZ n).kids.length=(AZ n).keys.length+1:=by
   rw[C9 sL eL] at sL;exact(Bs.1 sL).2.1
  obtain⟨l1,l2,Q1,Q2,rfl,rfl,g1,g2,g3,g4⟩:=Kd.split n2 hL hlo
  exact⟨l1,l2,Q1,Q2,rfl,rfl,.mki eL g1,.mki eR g2,g3,g4,ho⟩
def Out(s:PD)(h z:Nat)(m:MdD)(l:List KV)(P:List Int):Prop:=
 (m.other<0∧∃n Q,At s m.page n∧m.size=AY n∧P=m.page::Q∧z≤n.keys.length∧Nd s (Tr s h) (decide (h=0)) n l Q)∨
 (0≤m.other∧m.size=256∧∃l1 l2 P1 P2,l=l1++l2∧P=P1++P2∧Tr s (h+1) m.page l1 P1∧Tr s (h+1) m.other l2 P2∧(∀x∈l1,Lt x.1 m.key)∧(∀x∈l2,¬Lt x.1 m.key)∧1≤m.key.length∧m.key.length≤64)
def Out.stay{m:MdD}(o:Out s h z m l P)(hs:CQ s t P):Out t h z m l P:=by
 rcases o with ⟨h1,n,Q,h2,h3,rfl,h4,h5⟩|⟨h1,h2,l1,l2,P1,P2,rfl,rfl,h3,h4,h5⟩
 ·exact .inl ⟨h1,n,Q,h2.stay (hs _ (Ado ..)),h3,rfl,h4,h5.stay (fun p hp=>hs p (Adp _ hp))⟩
 ·exact .inr ⟨h1,h2,l1,l2,P1,P2,rfl,rfl,h3.stay (fun p hp=>hs p (Adw _ hp)),h4.stay (fun p hp=>hs p (Ady _ hp)),h5⟩
def Out.live{m:MdD}(o:Out s h z m l P):∀p∈P,A4 s p:=by
 rcases o with ⟨h1,n,Q,h2,h3,rfl,h4,h5⟩|⟨h1,h2,l1,l2,P1,P2,rfl,rfl,h3,h4,h5⟩
 ·intro p hp;rcases Adu.1 hp with rfl|hp
  ·exact h2.liv
  ·exact h5.live p hp
 ·exact fun p hp=>(Adg.1 hp).elim (h3.live p) (h4.live p)
def Out.tr{m:MdD}(o:Out s h z m l P)(h1:m.other<0)(hz:1≤z):Tr s (h+1) m.page l P:=by
 rcases o with ⟨h1,n,Q,h2,h3,rfl,h4,h5⟩|⟨h2,_⟩
 ·exact⟨n,Q,h2,fun e=>by rw[e] at h4;simp at h4;omega,rfl,h5⟩
 ·omega
def Em{α}{l:List α}:l≠[]↔1≤l.length:=by cases l<;>simp
def Fl(hG:Pgr.Good s){k:Int}(hn:Nd s (Tr s h) (decide (h=0)) n l Q)(hs:A0 n=true)(hh:AY n≤if n.leaf=true then 340 else 440)(hk:A4 s k)(hz:z≤n.keys.length)
  (hnd:(k::Q).Nodup):
  ((AW s k n).2.2=0∧∃P',Mv s (AW s k n).1 (k::Q) P' 2∧Out (AW s k n).1 h z (AW s k n).2.1 l P')∨((AW s k n).2.2=190∧s.free<2):=by
 obtain⟨hkQ,hQ⟩:=Afo.1 hnd
 have hl:=hn.live
 have hkq:∀p∈Q,p∉ [k]:=fun p hp q=>hkQ (Adq.1 q▸hp)
 rcases PY hG hs (fun hz=>PU hh (OR hs hz)) hk with ⟨h1,⟨p,e,h2,h3⟩|⟨hc,hH,p,q,e,h0,h2,h3,h4⟩⟩|h1
 ·refine .inl ⟨h1,p::Q,h2.frame hl hQ hkq,.inl ?_⟩
  rw[e]
  exact⟨(by show(-1:Int)<0;decide),n,Q,h3,rfl,rfl,hz,hn.stay (h2.same hl hkq)⟩
 ·obtain⟨l1,l2,Q1,Q2,rfl,rfl,g1,g2,g3,g4,g5⟩:=(hn.stay (h2.same hl hkq)).split hs hc hH
  refine .inl ⟨h1,(p::Q1)++(q::Q2),(h2.frame hl hQ hkq).perm (Aeq _) ?_,.inr ?_⟩
  ·refine Aeb.2 fun a=>?_
   simp only[Aeg,Aeo,Afs];omega
  ·rw[e]
   exact⟨h0,rfl,l1,l2,_,_,rfl,rfl,⟨_,Q1,h3,Em.2 hH.n1,rfl,g1⟩,⟨_,Q2,h4,Em.2 hH.n2,rfl,g2⟩,g3,g4,g5⟩
 ·exact .inr h1
section
section
variable {α:Type}
def F5(l:List α){i:Nat}(h:i<l.length):∃a x b,l=a++[x]++b∧a.length=i:=⟨l.take i,l[i],l.drop (i+1),by simp,by simp;omega⟩
def Dd{a b:List α}{x d:α}:(a++[x]++b).getD a.length d=x:=by simp[List.getD]
def Eh{a b:List α}{x y:α}:(a++[x]++b).set a.length y=a++[y]++b:=by simp
def Er{a b:List α}{x:α}:(a++[x]++b).eraseIdx a.length=a++b:=by simp[List.eraseIdx_append]
def IF{a b:List α}{y:α}:B1 (a++b) a.length y=a++[y]++b:=by simp[B1]
def Mq{a b:List α}{x y:α}:B1 (a++[x]++b) (a.length+1) y=a++[x,y]++b:=by
 have e:a.length+1=(a++[x]).length:=by simp
 unfold B1;rw[e,List.take_left,List.drop_left];simp
end
def Sv(hG:Pgr.Good t){k c:Int}{a b}{ca cb:List Int}{md:MdD}{m' l2}{P1 Pm P2:List Int}
  (hat:At t k ⟨false,a++b,[],ca++[c]++cb⟩) (ea:ca.length=a.length) (hne:a++b≠[]) (hl:KL (Tr t (h+1)) a ca l1 P1) (hr:KR (Tr t (h+1)) b cb l2 P2) (ho:Out t h 1 md m' Pm)
  (ba:∀k∈a,∀x∈m',¬Lt x.1 k) (bb:∀k∈b,∀x∈m',Lt x.1 k) (hnd:(k::(P1++Pm++P2)).Nodup):
  ((BJ t k ⟨false,a++b,[],ca++[c]++cb⟩ a.length md).2.2=0∧∃P',Mv t (BJ t k ⟨false,a++b,[],ca++[c]++cb⟩ a.length md).1 (k::(P1++Pm++P2)) P' 2∧
   Out (BJ t k ⟨false,a++b,[],ca++[c]++cb⟩ a.length md).1 (h+1) 1 (BJ t k ⟨false,a++b,[],ca++[c]++cb⟩ a.length md).2.1 (l1++m'++l2) P')∨
  ((BJ t k ⟨false,a++b,[],ca++[c]++cb⟩ a.length md).2.2=190∧t.free<2):=by
 have hs:=Bs.1 hat.sound
 obtain⟨hko,hlen,hrng⟩:=hs
 have hsz:=hat.size
 rw[size_inner] at hsz
 have hd:decide (h+1=0)=false:=decide_eq_false (Aeh _)
 have hkv:∀p∈P1++Pm++P2,A4 t p:=fun p hp=>by
  rcases Adg.1 hp with hp|hp
  ·rcases Adg.1 hp with hp|hp
   ·rcases hl with ⟨_,_,_,e⟩|⟨_,_,_,e,_⟩
    ·rw[e] at hp;cases hp
    ·exact Kd.all (fun c l P q=>Tr.live q) e p hp
   ·exact ho.live p hp
  ·rcases hr with ⟨_,_,_,e⟩|⟨_,_,_,e,_⟩
   ·rw[e] at hp;cases hp
   ·exact Kd.all (fun c l P q=>Tr.live q) e p hp
 have hkr:∀p,A4 t p→0≤p∧p≤8191:=fun p hp=>Cl hG hp
 have e0:(ca++[c]++cb).getD a.length 0=c:=by rw[←ea];exact Dd
 have hz1:1≤(a++b).length:=Em.1 hne
 have hsz':AY (⟨false,a++b,[],ca++[c]++cb⟩:Az)≤256:=hat.size
 unfold BJ
 simp only[e0]
 by_cases h1:c=md.page∧md.other<0
 ·rw[if_pos h1]
  obtain⟨h1,h2⟩:=h1
  subst h1
  refine .inl ⟨rfl,k::(P1++Pm++P2),?_,.inl ⟨(by show(-1:Int)<0;decide),_,P1++Pm++P2,hat,rfl,rfl,hz1,?_⟩⟩
  ·have:=(Mv.refl hG).frame (R:=k::(P1++Pm++P2)) (fun p hp=>(Adu.1 hp).elim (fun e=>e▸hat.liv) (hkv p)) hnd (fun p _ q=>by cases q)
   exact this.mono (by omega)
  ·rw[hd]
   refine .mki rfl ?_
   have:=Kd.Eu (km:=[]) (cm:=[md.page]) hl (Kd.one.2 (ho.tr h2 (Adi _))) hr (by simpa using hko) ba bb
   simpa using this
 ·rw[if_neg h1]
  by_cases h2:0≤md.other
  ·rw[if_pos h2]
   rcases ho with ⟨q,_⟩|⟨_,_,m1,m2,Q1,Q2,rfl,rfl,g1,g2,g3,g4,g5,g6⟩
   ·omega
   ·have e1:B1 (a++b) a.length md.key=a++[md.key]++b:=IF
    have e2:B1 ((ca++[c]++cb).set a.length md.page) (a.length+1) md.other=ca++[md.page,md.other]++cb:=by rw[←ea,Eh,Mq]
    simp only[e1,e2]
    obtain⟨x1,r1,f1⟩:=Aev g1.ne
    obtain⟨x2,r2,f2⟩:=Aev g2.ne
    obtain⟨ko1,ko2,ko3⟩:=KO.app.1 hko
    have ha':∀k∈a,Lt k md.key:=fun p hp=>E4 (ba p hp x1 (by simp[f1])) (g3 x1 (by simp[f1]))
    have hb':∀k∈b,Lt md.key k:=fun p hp=>E4 (g4 x2 (by simp[f2])) (bb p hp x2 (by simp[f2]))
    have hko':KO (a++[md.key]++b):=by
     rw[Adf];refine KO.app.2 ⟨ko1,KO.cons.2 ⟨⟨g5,g6⟩,ko2,hb'⟩,fun x hx y hy=>?_⟩;rcases Adu.1 hy with rfl|hy
     ·exact ha' x hx
     ·exact ko3 x hx y hy
    obtain⟨n1,n1Q,n1a,_,n1e,_⟩:=id g1
    obtain⟨n2,n2Q,n2a,_,n2e,_⟩:=id g2
    have hso:A0 ⟨false,a++[md.key]++b,[],ca++[md.page,md.other]++cb⟩=true:=by
     refine Bs.2 ⟨hko',?_,fun p hp=>?_⟩
     ·simp only[Adj,Adm,Aem] at hlen⊢;omega
     ·rcases Adg.1 hp with hp|hp
      ·rcases Adg.1 hp with hp|hp
       ·exact hrng p (by simp[hp])
       ·rcases Adu.1 hp with rfl|hp
        ·exact hkr _ n1a.liv
        ·rw[Adq.1 hp];exact hkr _ n2a.liv
      ·exact hrng p (by simp[hp])
    refine Fl hG (h:=h+1) (z:=1) ?_ hso ?_ hat.liv ?_ hnd
    ·rw[hd]
     exact .mki rfl (Kd.Eu (km:=[md.key]) (cm:=[md.page,md.other]) hl (Kd.cons.2 ⟨m1,m2,Q1,Q2,rfl,rfl,g1,g3,g4,Kd.one.2 g2⟩) hr hko' ba bb)
    ·simp only[Adk,if_false]
     rw[size_inner]
     simp only[Adj,Adm,Aem,Cg,Cz] at hsz⊢
     omega
    ·simp;omega
  ·rw[if_neg h2]
   have e2:(ca++[c]++cb).set a.length md.page=ca++[md.page]++cb:=by rw[←ea,Eh]
   simp only[e2]
   have htr:=ho.tr (by omega) (Adi _)
   obtain⟨n1,n1Q,n1a,_,n1e,_⟩:=id htr
   have hso:A0 ⟨false,a++b,[],ca++[md.page]++cb⟩=true:=by
    refine Bs.2 ⟨hko,?_,fun p hp=>?_⟩
    ·simp only[Adj,Adm,Aem] at hlen⊢;omega
    ·rcases Adg.1 hp with hp|hp
     ·rcases Adg.1 hp with hp|hp
      ·exact hrng p (by simp[hp])
      ·rw[Adq.1 hp];exact hkr _ n1a.liv
     ·exact hrng p (by simp[hp])
   refine Fl hG (h:=h+1) (z:=1) ?_ hso ?_ hat.liv hz1 hnd
   ·rw[hd]
    refine .mki rfl ?_
    have:=Kd.Eu (km:=[]) (cm:=[md.page]) hl (Kd.one.2 htr) hr (by simpa using hko) ba bb
    simpa using this
   ·simp only[Adk,if_false]
    rw[size_inner]
    simp only[Adj,Adm,Aem] at hsz⊢
    omega
def KL.live(hl:KL (Tr s h) ks cs l Q):∀p∈Q,A4 s p:=by
 rcases hl with ⟨_,_,_,e⟩|⟨_,_,_,e,_⟩
 ·rw[e];exact fun p hp=>by cases hp
 ·exact Kd.all (fun c l P q=>Tr.live q) e
def KR.live(hl:KR (Tr s h) ks cs l Q):∀p∈Q,A4 s p:=by
 rcases hl with ⟨_,_,_,e⟩|⟨_,_,_,e,_⟩
 ·rw[e];exact fun p hp=>by cases hp
 ·exact Kd.all (fun c l P q=>Tr.live q) e
def Jq{a b vs}(h:Lf s (a++key::b) vs l Q):
  ∃va c vb l1 v0 l2 P1 Pv P2,vs=va++[c]++vb∧va.length=a.length∧l=l1++[(key,v0)]++l2∧Q=P1++Pv++P2∧Lf s a va l1 P1∧Ce s c v0 Pv∧Lf s b vb l2 P2:=by
 have hl:=h.len.1
 obtain⟨va,c,vb,rfl,e⟩:=F5 vs (i:=a.length) (by rw[hl];simp)
 rw[Adf] at h
 obtain⟨l1,l',P1,P',rfl,rfl,h1,h2⟩:=h.split e
 obtain⟨l0,l2,Pv,P2,rfl,rfl,h3,h4⟩:=Lf.split (ks:=[key]) (vs:=[c]) h2 rfl
 obtain⟨v0,rfl,h5⟩:=h3.AbW
 exact⟨va,c,vb,l1,v0,l2,P1,Pv,P2,rfl,e,by simp,by simp,h1,h5,h4⟩
def Jm{a b vs}(h:Lf s (a++b) vs l Q):
  ∃va vb l1 l2 P1 P2,vs=va++vb∧va.length=a.length∧l=l1++l2∧Q=P1++P2∧Lf s a va l1 P1∧Lf s b vb l2 P2:=by
 have hl:=h.len.1
 have e:vs=vs.take a.length++vs.drop a.length:=(List.take_append_drop _ _).symm
 have e2:(vs.take a.length).length=a.length:=by simp at hl⊢;omega
 rw[e] at h
 obtain⟨l1,l2,P1,P2,rfl,rfl,h1,h2⟩:=h.split e2
 exact⟨_,_,l1,l2,P1,P2,e,e2,rfl,rfl,h1,h2⟩
def HA{a va}{P1:List Int}(h:Lf s a va l1 P1)(ha:∀x∈a,Lt x key):∀x∈l1,Lt x.1 key:=fun x hx=>ha _ (by rw[h.keys];exact Agq hx)
def Hv{a va}{P1:List Int}(h:Lf s a va l1 P1)(ha:∀x∈a,Lt key x):∀x∈l1,Lt key x.1:=fun x hx=>ha _ (by rw[h.keys];exact Agq hx)
def Ww{cell}(hk:1≤key.length∧key.length≤64):∀(h:Nat) {s}{k:Int}{l}{P Pc:List Int},Pgr.Good s→Tr s (h+1) k l P→(P++Pc).Nodup→Ce s cell v Pc→
  ((Cb s k key cell (h+1)).2.2.2=0∧(Cb s k key cell (h+1)).2.2.1= !isK l key∧∃P',Mv s (Cb s k key cell (h+1)).1 (P++Pc) P' (2*(h+1))∧Out (Cb s k key cell (h+1)).1 h 1 (Cb s k key cell (h+1)).2.1 (Ez l key v) P')∨
  ((Cb s k key cell (h+1)).2.2.2=190∧s.free<2*(h+1))
 |0,s,k,l,P,Pc,hG,⟨n,Q,hat,hne,eP,hn⟩,hnd,hc=>by
  subst eP;rw[decide_eq_true rfl] at hn;obtain⟨n1,n2⟩:=hn.leaf;have ef:=Dy hat.sound n1;obtain⟨ks,vs,rfl⟩:∃ks vs,n=⟨true,ks,vs,[]⟩:=⟨_,_,ef⟩
  simp only at n2 hne;obtain⟨hko,hvl,hv16⟩:=Ck.1 hat.sound;have hlv:=hat.level (x:=((0+1:Nat):Int)) rfl;have hlz:(AT s k ((0+1:Nat):Int)).2=0:=by rw[hlv]
  have hln:(AT s k ((0+1:Nat):Int)).1=⟨true,ks,vs,[]⟩:=by rw[hlv]
  have hsz:=hat.size;rw[size_leaf hvl] at hsz;have hcl:=hc.len;have hQl:=n2.live;have hPl:=hc.live;rcases Hw hko (vs:=vs) key with ⟨a,b,rfl,hf,ha,hb⟩|⟨a,b,rfl,hf,ha,hb⟩
  ·rw[UR hlz hln hf];obtain⟨va,c,vb,l1,v0,l2,P1,Pv,P2,rfl,ev,rfl,rfl,g1,g2,g3⟩:=Jq n2;have e0:(va++[c]++vb).getD a.length []=c:=by rw[←ev];exact Dd
   have e1:(va++[c]++vb).set a.length cell=va++[cell]++vb:=by rw[←ev];exact Eh
   simp only[e0,e1];have hnd':(k::(P1++Pc++P2)).Nodup∧Pv.Nodup∧∀p∈k::(P1++Pc++P2),p∉Pv:=by
    have hp:(k::(P1++Pv++P2)++Pc).Perm ((k::(P1++Pc++P2))++Pv):=Aeb.2 fun a=>by
     simp only[Aeg,Aeo];omega
    obtain⟨q1,q2,q3⟩:=Afl.1 (hp.nodup_iff.1 hnd);exact⟨q1,q2,fun p h1 h2=>q3 p h1 p h2 rfl⟩
   obtain⟨q1,q2,q3⟩:=hnd';obtain⟨d1,d2⟩:=g2.VQ hG q2;rw[if_neg (by rw[d1];decide)];have hR:∀p∈k::(P1++Pc++P2),A4 s p:=fun p hp=>by
    rcases Adu.1 hp with rfl|hp
    ·exact hat.liv
    ·rcases Adg.1 hp with hp|hp
     ·rcases Adg.1 hp with hp|hp
      ·exact hQl p (by simp[hp])
      ·exact hPl p hp
     ·exact hQl p (by simp[hp])
   have hsm:=d2.same hR q3;have hl1:=HA g1 ha;have hl2:=Hv g3 hb;have hput:Ez (l1++[(key,v0)]++l2) key v=l1++[(key,v)]++l2:=by rw[N6 hl1 hl2,YW]
   have hisk:isK (l1++[(key,v0)]++l2) key=true:=by rw[DM hl1 hl2,H8]
   have hLf:Lf (BP s c).1 (a++key::b) (va++[cell]++vb) (l1++[(key,v)]++l2) (P1++Pc++P2):=by
    have w1:=g1.stay (t:=(BP s c).1) (fun p hp=>hsm p (by simp[hp]));have w2:=hc.stay (t:=(BP s c).1) (fun p hp=>hsm p (by simp[hp]));have w3:=g3.stay (t:=(BP s c).1) (fun p hp=>hsm p (by simp[hp]));have:=w1.join ((Lf.one (k:=key) w2).join w3);simpa using this
   have hso:A0 ⟨true,a++key::b,va++[cell]++vb,[]⟩=true:=by
    refine Ck.2 ⟨hko,by simp at hvl⊢;omega,fun x hx=>?_⟩;rcases Adg.1 hx with hx|hx
    ·rcases Adg.1 hx with hx|hx
     ·exact hv16 x (by simp[hx])
     ·rw[Adq.1 hx];exact hcl
    ·exact hv16 x (by simp[hx])
   have hnd2:Nd (BP s c).1 (Tr (BP s c).1 0) (decide (0=0)) ⟨true,a++key::b,va++[cell]++vb,[]⟩ (l1++[(key,v)]++l2) (P1++Pc++P2):=by
    rw[decide_eq_true rfl];exact .mkl rfl hLf
   have hzz:AY (⟨true,a++key::b,va++[cell]++vb,[]⟩:Az)≤340:=by
    rw[size_leaf (by simp at hvl⊢;omega)];simp only[Adj,Adm,Cg,Cz] at hsz⊢;omega
   rcases Fl d2.gd (h:=0) (z:=1) hnd2 hso hzz (by unfold A4;rw[(hsm k (by simp)).1];exact hat.liv) (by simp;omega) q1 with ⟨w1,P',w2,w3⟩|⟨w1,w2⟩
   ·refine .inl ⟨w1,by rw[hisk];rfl,P',?_,by rw[hput];exact w3⟩;refine((d2.then w2 (Aeq _) hR q1 q3).perm ?_ (Aeq _)).mono (by omega);refine Aeb.2 fun a=>?_;simp only[Aeg,Aeo];omega
   ·exact .inr ⟨w1,by have:=d2.fr;omega⟩
  ·rw[Uy hlz hln hf];obtain⟨va,vb,l1,l2,P1,P2,rfl,ev,rfl,rfl,g1,g3⟩:=Jm n2;have e0:B1 (a++b) a.length key=a++[key]++b:=IF;have e1:B1 (va++vb) a.length cell=va++[cell]++vb:=by rw[←ev];exact IF
   simp only[e0,e1];have hl1:=HA g1 ha;have hl2:=Hv g3 hb;have hput:Ez (l1++l2) key v=l1++[(key,v)]++l2:=by
    have:=N6 (m:=[]) (v:=v) hl1 hl2;rw[Y3,Aed] at this;exact this
   have hisk:isK (l1++l2) key=false:=by
    have:=DM (m:=[]) hl1 hl2;rw[Ie,Aed] at this;exact this
   have hLf:Lf s (a++[key]++b) (va++[cell]++vb) (l1++[(key,v)]++l2) (P1++Pc++P2):=by
    have:=g1.join ((Lf.one (k:=key) hc).join g3);simpa using this
   have hko':KO (a++[key]++b):=by
    obtain⟨k1,k2,k3⟩:=KO.app.1 hko;rw[Adf];refine KO.app.2 ⟨k1,KO.cons.2 ⟨hk,k2,hb⟩,fun x hx y hy=>?_⟩;rcases Adu.1 hy with rfl|hy
    ·exact ha x hx
    ·exact k3 x hx y hy
   have hso:A0 ⟨true,a++[key]++b,va++[cell]++vb,[]⟩=true:=by
    refine Ck.2 ⟨hko',by simp at hvl⊢;omega,fun x hx=>?_⟩;rcases Adg.1 hx with hx|hx
    ·rcases Adg.1 hx with hx|hx
     ·exact hv16 x (by simp[hx])
     ·rw[Adq.1 hx];exact hcl
    ·exact hv16 x (by simp[hx])
   have hnd2:Nd s (Tr s 0) (decide (0=0)) ⟨true,a++[key]++b,va++[cell]++vb,[]⟩ (l1++[(key,v)]++l2) (P1++Pc++P2):=by
    rw[decide_eq_true rfl];exact .mkl rfl hLf
   have hzz:AY (⟨true,a++[key]++b,va++[cell]++vb,[]⟩:Az)≤340:=by
    rw[size_leaf (by simp at hvl⊢;omega)];simp only[Adj,Adm,Aem,Cg,Cz] at hsz⊢;omega
   have hp:(k::(P1++P2)++Pc).Perm (k::(P1++Pc++P2)):=Aeb.2 fun a=>by
     simp only[Aeg,Aeo];omega
   rcases Fl hG (h:=0) (z:=1) hnd2 hso hzz hat.liv (by simp;omega) (hp.nodup_iff.1 hnd) with ⟨w1,P',w2,w3⟩|⟨w1,w2⟩
   ·exact .inl ⟨w1,by rw[hisk];rfl,P',(w2.perm hp (Aeq _)).mono (by omega),by rw[hput];exact w3⟩
   ·exact .inr ⟨w1,by omega⟩
 |h+1,s,k,l,P,Pc,hG,⟨n,Q,hat,hne,eP,hn⟩,hnd,hc=>by
  subst eP;rw[decide_eq_false (Aeh _)] at hn;obtain⟨n1,n2⟩:=hn.inner;have ef:=C9 hat.sound n1;obtain⟨ks,cs,rfl⟩:∃ks cs,n=⟨false,ks,[],cs⟩:=⟨_,_,ef⟩
  simp only at n2 hne;obtain⟨hko,hcl,hrng⟩:=Bs.1 hat.sound;have hlv:=hat.level (x:=((h+1+1:Nat):Int)) (by show false=_;exact(decide_eq_false (by omega)).symm);have hlz:(AT s k ((h+1+1:Nat):Int)).2=0:=by rw[hlv]
  have hln:(AT s k ((h+1+1:Nat):Int)).1=⟨false,ks,[],cs⟩:=by rw[hlv]
  obtain⟨a,b,rfl,hf,ha,hb⟩:=GP hat.sound key;rw[OU hlz hln hf];obtain⟨ca,c,cb,rfl,ec⟩:=F5 cs (i:=a.length) (by rw[hcl];simp;omega);have e0:(ca++[c]++cb).getD a.length 0=c:=by rw[←ec];exact Dd
  simp only[e0];have n2':Kd (Tr s (h+1)) (a++[]++b) (ca++[c]++cb) l Q:=by simpa using n2
  obtain⟨l1,m,l2,P1,Pm,P2,rfl,rfl,g1,g2,g3,g4,g5⟩:=n2'.focus (by simpa using hko) ec rfl;have hl1:∀x∈l1,Lt x.1 key:=fun x hx=>by
   obtain⟨p,p1,p2⟩:=g1.below x hx;exact Ho p2 (ha p p1)
  have hl2:∀x∈l2,Lt key x.1:=fun x hx=>by
   obtain⟨p,p1,p2⟩:=g3.MJ x hx;exact Ho (hb p p1) p2
  have hp:(k::(P1++Pm++P2)++Pc).Perm ((Pm++Pc)++(k::(P1++P2))):=Aeb.2 fun a=>by
     simp only[Aeg,Aeo];omega
  obtain⟨q1,q2,q3⟩:=Afl.1 (hp.nodup_iff.1 hnd);have q3':∀p∈k::(P1++P2),p∉Pm++Pc:=fun p h1 h2=>q3 p h2 p h1 rfl;have hR:∀p∈k::(P1++P2),A4 s p:=fun p hp=>by
   rcases Adu.1 hp with rfl|hp
   ·exact hat.liv
   ·exact(Adg.1 hp).elim (g1.live p) (g3.live p)
  rcases Ww hk h hG g2 q1 hc with ⟨w1,w2,P',w3,w4⟩|⟨w1,w2⟩
  ·rw[if_neg (by rw[w1];decide)];generalize Cb s c key cell (h+1)=u at w1 w2 w3 w4⊢;have hsm:=w3.same hR q3';have hput:Ez (l1++m++l2) key v=l1++Ez m key v++l2:=N6 hl1 hl2;have hisk:isK (l1++m++l2) key=isK m key:=DM hl1 hl2;have w5:=w3.frame hR q2 q3';have hp2:(P'++(k::(P1++P2))).Perm (k::(P1++P'++P2)):=Aeb.2 fun a=>by
     simp only[Aeg,Aeo];omega
   have hat':=hat.stay (hsm k (Ado ..));rcases Sv w3.gd hat' ec hne (g1.stay (fun p hp=>hsm p (by simp[hp]))) (g3.stay (fun p hp=>hsm p (by simp[hp]))) w4
    (fun p hp x hx=>by
     rcases NY hx with rfl|hx
     ·exact ha p hp
     ·exact g4 p hp x hx) (fun p hp x hx=>by
     rcases NY hx with rfl|hx
     ·exact hb p hp
     ·exact g5 p hp x hx) (hp2.nodup_iff.1 w5.nd) with ⟨y1,P2',y2,y3⟩|⟨y1,y2⟩
   ·refine .inl ⟨y1,by rw[w2,hisk],P2',?_,by rw[hput];exact y3⟩;exact((w5.trans (y2.perm hp2 (Aeq _))).perm hp (Aeq _)).mono (by omega)
   ·exact .inr ⟨y1,by have:=w3.fr;omega⟩
  ·rw[if_pos (by rw[w1];decide)];exact .inr ⟨w1,by omega⟩
end
end Go.Gk.Tre
end
section
namespace Go.Gk
def S6{b:Nat}{T T' l l'}(h:bx b T l=bx b T' l'):T=T'∧l=l':=by
 have h1:bx b T l b (Obj.cells l.toArray T (0,0)):=Cv _ _;rw[h] at h1;have h2:=(G4 h1).2;simp only[Obj.cells.injEq] at h2;exact⟨h2.2.1,by simpa using h2.1⟩
def Ap.all{α:Type}{R:Ac→List Value→α→Prop}(hR:Gp R){d:Ac}{v:Value}{xs:List α}{h:Ac}(o:Ap 1 R d v xs h)(hx:0<xs.length):
  ∃b T l c,v=.slice (some ⟨b,0,none⟩) xs.length c∧h=bx b T l∧xs.length≤l.length∧(∀j (hj:j<xs.length),∃u,l[j*1+0]?=some u∧R d [u] xs[j])∧
   ∀d' j u x,Le d d'→j<xs.length→R d' [u] x→Ap 1 R d' v (xs.set j x) (bx b T (patch l (j*1) [u])):=by
 obtain⟨b,T,l,c,cs,e1,e2, -, -, -, -, -⟩:=Ap.at (by omega) o hx
 subst e1;subst e2
 have key:∀j (hj:j<xs.length),j*1+1≤l.length∧(∃u,l[j*1+0]?=some u∧R d [u] xs[j]):=by
  intro j hj;obtain⟨b',T',l',c',cs',q1,q2,q3,q4,q5,q6,q7⟩:=Ap.at (by omega) o hj;cases q1;obtain⟨rfl,rfl⟩:=S6 q2;refine⟨q5,?_⟩
  match cs',q3 with
  |[u],_=>exact⟨u,q4 0 u rfl,q6⟩
 refine⟨b,T,l,c,rfl,rfl,?_,fun j hj=>(key j hj).2,fun d' j u x hl hj hu=>?_⟩
 rotate_left
 ·obtain⟨b',T',l',c',cs',q1,q2,q3,q4,q5,q6,q7⟩:=Ap.at (by omega) (Ap.mono (R:=R) hR o hl) hj
  cases q1
  obtain⟨rfl,rfl⟩:=S6 q2
  exact q7 [u] x rfl hu
 have:=(key (xs.length - 1) (by omega)).1
 omega
def Tn{P}{Q:Cc}{ρ d L s}(Ls L1:List Ac)(hL:L.Perm (Ls++L1))(h:gws P Q.pan Q.n s Ls ρ d L1):gwp P (.reg true s) Q ρ d L:=⟨d,Ls,L1,Vs.perm hL,h⟩
end Go.Gk
namespace Go.Gk.Tre
open Go Go.Gk Go.Gk.Dev Go.Gk.Cch Go.Gk.Pgr Go.Gk.Chn Go.Gk.Node
def J0{s}{k:Int}{n:Az}{i0 i:Nat}{a b:Az×Int}(hk:n.keys.length≠0)(hi:i=if i0=n.keys.length then i0 - 1 else i0)(ha:Bk s (n.kids.getD i 0)=a)(hb:Bk s (n.kids.getD (i+1) 0)=b):
  C1 s k n i0=if a.2≠0 then(s,Co,a.2) else if b.2≠0 then(s,Co,b.2) else if a.1.leaf≠b.1.leaf then(s,Co,200) else
   let w:=AW s (n.kids.getD i 0) (BE a.1 b.1 (n.keys.getD i []))
   if w.2.2≠0 then(w.1,Co,w.2.2) else
   let u:=w.1.drop (n.kids.getD (i+1) 0)
   if u.2≠0 then(u.1,Co,u.2) else
   if 0≤w.2.1.other then AW u.1 k {n with keys:=n.keys.set i w.2.1.key,kids:=(n.kids.set i w.2.1.page).set (i+1) w.2.1.other}
   else AW u.1 k {n with keys:=n.keys.eraseIdx i,kids:=(n.kids.set i w.2.1.page).eraseIdx (i+1)}:=by
 subst hi;subst ha;subst hb
 unfold C1
 exact if_neg hk
end Go.Gk.Tre
end
section
namespace Go.Gk.Tre
open Go Go.Gk Go.Gk.Dev Go.Gk.Cch Go.Gk.Pgr Go.Gk.Chn Go.Gk.Node
variable{t:PD}
section
def CQ.trans{s u}{P:List Int}(h:CQ s t P)(k:CQ t u P):CQ s u P:=fun p hp=>⟨(k p hp).1.trans (h p hp).1,(k p hp).2.trans (h p hp).2⟩
def CQ.sub{s}{P Q:List Int}(h:CQ s t P)(hs:∀p∈Q,p∈P):CQ s t Q:=fun p hp=>h p (hs p hp)
def PQ{n:Az}(hs:A0 n=true)(hz:5≤AY n):n.keys≠[]:=by
 intro e;cases hl:n.leaf with
 |true=>
  have ef:=Dy hs hl
  rw[ef] at hs
  have h2:=(Ck.1 hs).2.1
  have:=(congrArg AY ef).trans (size_leaf h2)
  rw[e] at this h2
  rw[Adn h2] at this
  simp only[Cz,Aem] at this;omega
 |false=>
  have ef:=C9 hs hl
  rw[ef] at hs
  have h2:=(Bs.1 hs).2.1
  have:=(congrArg AY ef).trans size_inner
  rw[h2,e] at this
  simp only[Cz,Aem] at this;omega
section
variable {α:Type}
def Me{a b:List α}{x y d:α}:(a++[x,y]++b).getD (a.length+1) d=y:=by
 rw[show a++[x,y]++b=(a++[x])++[y]++b by simp,show a.length+1=(a++[x]).length by simp];exact Dd
def Lu{a b:List α}{x y d:α}:(a++[x,y]++b).getD a.length d=x:=by
 rw[show a++[x,y]++b=a++[x]++(y::b) by simp];exact Dd
def NI{a b:List α}{x y u w:α}:((a++[x,y]++b).set a.length u).set (a.length+1) w=a++[u,w]++b:=by
 rw[show a++[x,y]++b=a++[x]++(y::b) by simp,Eh,show a++[u]++y::b=(a++[u])++[y]++b by simp,show a.length+1=(a++[u]).length by simp,Eh];simp
def Kn{a b:List α}{x y u:α}:((a++[x,y]++b).set a.length u).eraseIdx (a.length+1)=a++[u]++b:=by
 rw[show a++[x,y]++b=a++[x]++(y::b) by simp,Eh,show a++[u]++y::b=(a++[u])++[y]++b by simp,show a.length+1=(a++[u]).length by simp,Er]
end
def UZ(hG:Pgr.Good t){h i0:Nat}{k c1 c2:Int}{a b kk}{ca cb:List Int}{n1 n2:Az}{l1 m1 m2 l2}{P1 Q1 Q2 P2:List Int}
  (hk:A4 t k) (ea:ca.length=a.length) (eb:cb.length=b.length) (hko:KO (a++[kk]++b)) (hrng:∀c∈ca++cb,0≤c∧c≤8191) (hsz:AY (⟨false,a++[kk]++b,[],ca++[c1,c2]++cb⟩:Az)≤256)
  (hi:a.length=if i0=(a++[kk]++b).length then i0 - 1 else i0)
  (hl:KL (Tr t (h+1)) a ca l1 P1) (hr:KR (Tr t (h+1)) b cb l2 P2) (a1:At t c1 n1) (d1:Nd t (Tr t h) (decide (h=0)) n1 m1 Q1) (a2:At t c2 n2) (d2:Nd t (Tr t h) (decide (h=0)) n2 m2 Q2)
  (hz:AY n1+AY n2≤335) (hne:n1.keys≠[]∨n2.keys≠[]) (b1:∀x∈m1,Lt x.1 kk) (b2:∀x∈m2,¬Lt x.1 kk) (ba:∀k∈a,∀x∈m1++m2,¬Lt x.1 k) (bb:∀k∈b,∀x∈m1++m2,Lt x.1 k)
  (hnd:(k::(P1++(c1::Q1++c2::Q2)++P2)).Nodup):
  ((C1 t k ⟨false,a++[kk]++b,[],ca++[c1,c2]++cb⟩ i0).2.2=0∧∃P',Mv t (C1 t k ⟨false,a++[kk]++b,[],ca++[c1,c2]++cb⟩ i0).1 (k::(P1++(c1::Q1++c2::Q2)++P2)) P' 4∧
   Out (C1 t k ⟨false,a++[kk]++b,[],ca++[c1,c2]++cb⟩ i0).1 (h+1) 0 (C1 t k ⟨false,a++[kk]++b,[],ca++[c1,c2]++cb⟩ i0).2.1 (l1++(m1++m2)++l2) P')∨
  ((C1 t k ⟨false,a++[kk]++b,[],ca++[c1,c2]++cb⟩ i0).2.2=190∧t.free<4):=by
 obtain⟨ko1,ko2,ko3⟩:=KO.app.1 hko
 obtain⟨ko4,ko5,ko6⟩:=KO.app.1 ko1
 have hkk:=ko5.1 kk (by simp)
 have e1:(ca++[c1,c2]++cb).getD a.length 0=c1:=by rw[←ea];exact Lu
 have e2:(ca++[c1,c2]++cb).getD (a.length+1) 0=c2:=by rw[←ea];exact Me
 have e3:(a++[kk]++b).getD a.length []=kk:=Dd
 have hm:=J0 (s:=t) (k:=k) (n:=⟨false,a++[kk]++b,[],ca++[c1,c2]++cb⟩) (i0:=i0) (i:=a.length) (a:=(n1,0)) (b:=(n2,0)) (by simp) hi (by rw[show(⟨false,a++[kk]++b,[],ca++[c1,c2]++cb⟩:Az).kids.getD a.length 0=c1 from e1];exact a1.read)
  (by rw[show(⟨false,a++[kk]++b,[],ca++[c1,c2]++cb⟩:Az).kids.getD (a.length+1) 0=c2 from e2];exact a2.read)
 rw[hm,if_neg (fun q=>q rfl),if_neg (fun q=>q rfl),if_neg (fun q=>q (d1.1.trans d2.1.symm))]
 clear hm
 simp only[e1,e2,e3]
 obtain⟨dj,sj,zj,lj,ej⟩:=d1.join (fun c l P q=>Tr.ne q) d2 a1.sound a2.sound b1 b2 hkk
 have hp0:(k::(P1++(c1::Q1++c2::Q2)++P2)).Perm ((c1::(Q1++Q2))++([c2]++(k::(P1++P2)))):=Aeb.2 fun a=>by
  simp only[Aeg,Aeo,Afs];omega
 obtain⟨q1,q2,q3⟩:=Afl.1 (hp0.nodup_iff.1 hnd)
 have q3':∀p∈[c2]++(k::(P1++P2)),p∉c1::(Q1++Q2):=fun p h1 h2=>q3 p h2 p h1 rfl
 have hR:∀p∈[c2]++(k::(P1++P2)),A4 t p:=fun p hp=>by
  rcases Adg.1 hp with hp|hp
  ·rw[Adq.1 hp];exact a2.liv
  ·rcases Adu.1 hp with rfl|hp
   ·exact hk
   ·exact(Adg.1 hp).elim (hl.live p) (hr.live p)
 have hzj:AY (BE n1 n2 kk)≤if (BE n1 n2 kk).leaf=true then 340 else 440:=by
  rw[lj];cases hb:decide (h=0) with
  |true=>rw[hb] at zj;simp only[if_true] at zj⊢;omega
  |false=>rw[hb] at zj;simp only[Adk,if_false] at zj⊢;omega
 have hkj:1≤(BE n1 n2 kk).keys.length:=Em.1 fun e=>by
  obtain⟨-,f1,f2⟩:=ej e;exact hne.elim (fun q=>q f1) (fun q=>q f2)
 have hs0:=Fl hG (h:=h) (z:=1) dj sj hzj a1.liv hkj q1
 generalize AW t c1 (BE n1 n2 kk)=w at hs0⊢
 rcases hs0.symm with ⟨w1,w2⟩|⟨w1,Pj,w2,w3⟩
 ·rw[if_pos (by rw[w1];decide)]
  exact .inr ⟨w1,by omega⟩
 rw[if_neg (by rw[w1];decide)]
 have hsm1:=w2.same hR q3'
 have w4:=w2.frame hR q2 q3'
 have hp1:(Pj++([c2]++(k::(P1++P2)))).Perm ([c2]++(Pj++(k::(P1++P2)))):=Aeb.2 fun a=>by
  simp only[Aeg,Aeo,Afs];omega
 obtain⟨r1,r2,r3⟩:=Afl.1 (hp1.nodup_iff.1 w4.nd)
 have r3':∀p∈Pj++(k::(P1++P2)),p∉ [c2]:=fun p h1 h2=>r3 p h2 p h1 rfl
 have hc2:A4 w.1 c2:=by unfold A4;rw[(hsm1 c2 (by simp)).1];exact a2.liv
 obtain⟨u1,u2⟩:=FI w2.gd hc2
 have hR2:∀p∈Pj++(k::(P1++P2)),A4 w.1 p:=fun p hp=>(w4.lv p).2 (.inr (by
  rcases Adg.1 hp with q|q
  ·exact Adw _ q
  ·exact Ady _ (Ady _ q)))
 have hsm2:=u2.same hR2 r3'
 have u3:=u2.frame hR2 r2 r3'
 generalize w.1.drop c2=u at u1 u2 u3 hsm2⊢
 rw[if_neg (by rw[u1];decide)]
 have hsm:CQ t u.1 (k::(P1++P2)):=(hsm1.sub (fun p hp=>Ady _ hp)).trans (hsm2.sub (fun p hp=>Ady _ hp))
 have hl':=hl.stay (hsm.sub (fun p hp=>by simp[hp]))
 have hr':=hr.stay (hsm.sub (fun p hp=>by simp[hp]))
 have ho':=w3.stay (hsm2.sub (fun p hp=>Adw _ hp))
 have hk':A4 u.1 k:=by unfold A4;rw[(hsm k (by simp)).1];exact hk
 have M:Mv t u.1 (k::(P1++(c1::Q1++c2::Q2)++P2)) (k::(P1++Pj++P2)) 2:=by
  refine((w4.trans (u3.perm hp1 (Aeq _))).perm hp0 ?_).mono (by omega);refine Aeb.2 fun a=>?_;simp only[Aeg,Aeo,Afs];omega
 have hd:decide (h+1=0)=false:=decide_eq_false (Aeh _)
 have hGu:=u2.gd
 have hszE:=hsz
 rw[size_inner] at hszE
 have fin:∀{n':Az}{l},n'.leaf=false→Nd u.1 (Tr u.1 (h+1)) (decide (h+1=0)) n' l (P1++Pj++P2)→A0 n'=true→AY n'≤440→
   ((AW u.1 k n').2.2=0∧∃P',Mv t (AW u.1 k n').1 (k::(P1++(c1::Q1++c2::Q2)++P2)) P' 4∧Out (AW u.1 k n').1 (h+1) 0 (AW u.1 k n').2.1 l P')∨((AW u.1 k n').2.2=190∧t.free<4):=by
  intro n' l hlf hnd' hs' hz'
  rcases Fl hGu (h:=h+1) (z:=0) hnd' hs' (by rw[hlf];simpa using hz') hk' (Aej _) M.nd with ⟨y1,P',y2,y3⟩|⟨y1,y2⟩
  ·exact .inl ⟨y1,P',(M.trans y2).mono (by omega),y3⟩
  ·exact .inr ⟨y1,by have:=M.fr;omega⟩
 by_cases h2:0≤w.2.1.other
 ·rw[if_pos h2]
  have f1:(a++[kk]++b).set a.length w.2.1.key=a++[w.2.1.key]++b:=Eh
  have f2:((ca++[c1,c2]++cb).set a.length w.2.1.page).set (a.length+1) w.2.1.other=ca++[w.2.1.page,w.2.1.other]++cb:=by rw[←ea];exact NI
  simp only[f1,f2]
  rcases ho' with ⟨q,_⟩|⟨_,_,x1,x2,X1,X2,ex,rfl,g1,g2,g3,g4,g5,g6⟩
  ·omega
  ·obtain⟨y1,t1,f3⟩:=Aev g1.ne
   obtain⟨y2,t2,f4⟩:=Aev g2.ne
   have ha':∀k∈a,Lt k w.2.1.key:=fun p hp=>E4 (ba p hp y1 (by rw[ex,f3];simp)) (g3 y1 (by simp[f3]))
   have hb':∀k∈b,Lt w.2.1.key k:=fun p hp=>E4 (g4 y2 (by simp[f4])) (bb p hp y2 (by rw[ex,f4];simp))
   have hko':KO (a++[w.2.1.key]++b):=by
    rw[Adf];refine KO.app.2 ⟨ko4,KO.cons.2 ⟨⟨g5,g6⟩,ko2,hb'⟩,fun x hx y hy=>?_⟩;rcases Adu.1 hy with rfl|hy
    ·exact ha' x hx
    ·exact ko3 x (Adw _ hx) y hy
   obtain⟨v1,v1Q,v1a,_,v1e,_⟩:=id g1
   obtain⟨v2,v2Q,v2a,_,v2e,_⟩:=id g2
   refine fin rfl ?_ (Bs.2 ⟨hko',by simp[ea,eb];omega,fun p hp=>?_⟩) ?_
   ·rw[hd]
    have:=Kd.Eu (km:=[w.2.1.key]) (cm:=[w.2.1.page,w.2.1.other]) hl' (Kd.cons.2 ⟨x1,x2,X1,X2,rfl,rfl,g1,g3,g4,Kd.one.2 g2⟩) hr' hko' (by rw[←ex];exact ba) (by rw[←ex];exact bb)
    rw[←ex] at this
    exact .mki rfl this
   ·rcases Adg.1 hp with hp|hp
    ·rcases Adg.1 hp with hp|hp
     ·exact hrng p (by simp[hp])
     ·rcases Adu.1 hp with rfl|hp
      ·exact Cl hGu v1a.liv
      ·rw[Adq.1 hp];exact Cl hGu v2a.liv
    ·exact hrng p (by simp[hp])
   ·rw[size_inner]
    simp only[Adj,Adm,Aem,Cg,Cz] at hszE⊢
    omega
 ·rw[if_neg h2]
  have f1:(a++[kk]++b).eraseIdx a.length=a++b:=Er
  have f2:((ca++[c1,c2]++cb).set a.length w.2.1.page).eraseIdx (a.length+1)=ca++[w.2.1.page]++cb:=by rw[←ea];exact Kn
  simp only[f1,f2]
  have htr:=ho'.tr (by omega) (Adi _)
  obtain⟨v1,v1Q,v1a,_,v1e,_⟩:=id htr
  have hko':KO (a++b):=KO.app.2 ⟨ko4,ko2,fun x hx y hy=>ko3 x (Adw _ hx) y hy⟩
  refine fin rfl ?_ (Bs.2 ⟨hko',by simp[ea,eb];omega,fun p hp=>?_⟩) ?_
  ·rw[hd]
   refine .mki rfl ?_
   have:=Kd.Eu (km:=[]) (cm:=[w.2.1.page]) hl' (Kd.one.2 htr) hr' (by simpa using hko') ba bb
   simpa using this
  ·rcases Adg.1 hp with hp|hp
   ·rcases Adg.1 hp with hp|hp
    ·exact hrng p (by simp[hp])
    ·rw[Adq.1 hp];exact Cl hGu v1a.liv
   ·exact hrng p (by simp[hp])
  ·rw[size_inner]
   simp only[Adj,Adm,Aem,Cg,Cz] at hszE⊢
   omega
end
def Rz(key:List UInt8)(h:Nat):Prop:=∀{s}{k:Int}{l}{P:List Int},Pgr.Good s→Tr s (h+1) k l P→P.Nodup→
  ((BK s k key (h+1)).2.2.2=0∧(BK s k key (h+1)).2.2.1=isK l key∧((isK l key=false∧(BK s k key (h+1)).1=s)∨
   (isK l key=true∧∃P',Mv s (BK s k key (h+1)).1 P P' (4*(h+1))∧Out (BK s k key (h+1)).1 h 0 (BK s k key (h+1)).2.1 (B7 l key).1 P')))∨
  ((BK s k key (h+1)).2.2.2=190∧s.free<4*(h+1))
def ZC{key}:Rz key 0:=by
  intro s k l P hG ⟨n,Q,hat,hne,eP,hn⟩ hnd;subst eP;rw[decide_eq_true rfl] at hn;obtain⟨n1,n2⟩:=hn.leaf;have ef:=Dy hat.sound n1;obtain⟨ks,vs,rfl⟩:∃ks vs,n=⟨true,ks,vs,[]⟩:=⟨_,_,ef⟩
  simp only at n2 hne;obtain⟨hko,hvl,hv16⟩:=Ck.1 hat.sound;have hlv:=hat.level (x:=((0+1:Nat):Int)) rfl;have hlz:(AT s k ((0+1:Nat):Int)).2=0:=by rw[hlv]
  have hln:(AT s k ((0+1:Nat):Int)).1=⟨true,ks,vs,[]⟩:=by rw[hlv]
  have hsz:=hat.size;rw[size_leaf hvl] at hsz;have hQl:=n2.live;rcases Hw hko (vs:=vs) key with ⟨a,b,rfl,hf,ha,hb⟩|⟨a,b,rfl,hf,ha,hb⟩
  ·rw[MA hlz hln hf];obtain⟨va,c,vb,l1,v0,l2,P1,Pv,P2,rfl,ev,rfl,rfl,g1,g2,g3⟩:=Jq n2;have e0:(va++[c]++vb).getD a.length []=c:=by rw[←ev];exact Dd
   have e1:(va++[c]++vb).eraseIdx a.length=va++vb:=by rw[←ev];exact Er
   have e2:(a++key::b).eraseIdx a.length=a++b:=by
    have:=Er (a:=a) (b:=b) (x:=key);simpa using this
   simp only[e0,e1,e2];have hp:(k::(P1++Pv++P2)).Perm ((k::(P1++P2))++Pv):=Aeb.2 fun a=>by
    simp only[Aeg,Aeo];omega
   obtain⟨q1,q2,q3⟩:=Afl.1 (hp.nodup_iff.1 hnd);have q3':∀p∈k::(P1++P2),p∉Pv:=fun p h1 h2=>q3 p h1 p h2 rfl;obtain⟨d1,d2⟩:=g2.VQ hG q2;rw[if_neg (by rw[d1];decide)];have hR:∀p∈k::(P1++P2),A4 s p:=fun p hp=>by
    rcases Adu.1 hp with rfl|hp
    ·exact hat.liv
    ·rcases Adg.1 hp with hp|hp
     ·exact hQl p (by simp[hp])
     ·exact hQl p (by simp[hp])
   have hsm:=d2.same hR q3';have hl1:=HA g1 ha;have hl2:=Hv g3 hb;have hdel:(B7 (l1++[(key,v0)]++l2) key).1=l1++l2:=by rw[J5 hl1 hl2,NM];simp
   have hisk:isK (l1++[(key,v0)]++l2) key=true:=by rw[DM hl1 hl2,H8]
   have hLf:Lf (BP s c).1 (a++b) (va++vb) (l1++l2) (P1++P2):=by
    have w1:=g1.stay (t:=(BP s c).1) (fun p hp=>hsm p (by simp[hp]));have w3:=g3.stay (t:=(BP s c).1) (fun p hp=>hsm p (by simp[hp]));exact w1.join w3
   have hko':KO (a++b):=by
    obtain⟨k1,k2,k3⟩:=KO.app.1 hko;exact KO.app.2 ⟨k1,(KO.cons.1 k2).2.1,fun x hx y hy=>k3 x hx y (Adp _ hy)⟩
   have hso:A0 ⟨true,a++b,va++vb,[]⟩=true:=by
    refine Ck.2 ⟨hko',by simp at hvl⊢;omega,fun x hx=>?_⟩;rcases Adg.1 hx with hx|hx
    ·exact hv16 x (by simp[hx])
    ·exact hv16 x (by simp[hx])
   have hnd2:Nd (BP s c).1 (Tr (BP s c).1 0) (decide (0=0)) ⟨true,a++b,va++vb,[]⟩ (l1++l2) (P1++P2):=by
    rw[decide_eq_true rfl];exact .mkl rfl hLf
   have hzz:AY (⟨true,a++b,va++vb,[]⟩:Az)≤340:=by
    rw[size_leaf (by simp at hvl⊢;omega)];simp only[Adj,Adm,Cg,Cz] at hsz⊢;omega
   rcases Fl d2.gd (h:=0) (z:=0) hnd2 hso hzz (by unfold A4;rw[(hsm k (by simp)).1];exact hat.liv) (Aej _) q1 with ⟨w1,P',w2,w3⟩|⟨w1,w2⟩
   ·refine .inl ⟨w1,by rw[hisk],.inr ⟨hisk,P',?_,by rw[hdel];exact w3⟩⟩;refine((d2.then w2 (Aeq _) hR q1 q3').perm ?_ (Aeq _)).mono (by omega);refine Aeb.2 fun a=>?_;simp only[Aeg,Aeo];omega
   ·exact .inr ⟨w1,by have:=d2.fr;omega⟩
  ·rw[U2 hlz hln hf];obtain⟨va,vb,l1,l2,P1,P2,rfl,ev,rfl,rfl,g1,g3⟩:=Jm n2;have hl1:=HA g1 ha;have hl2:=Hv g3 hb;have hisk:isK (l1++l2) key=false:=by
    have:=DM (m:=[]) hl1 hl2;rw[Ie,Aed] at this;exact this
   exact .inl ⟨rfl,by rw[hisk],.inl ⟨hisk,rfl⟩⟩
def Yh{key}{h:Nat}(ihh:Rz key h):Rz key (h+1):=by
  intro s k l P hG ⟨n,Q,hat,hne,eP,hn⟩ hnd;subst eP;rw[decide_eq_false (Aeh _)] at hn;obtain⟨n1,n2⟩:=hn.inner;have ef:=C9 hat.sound n1;obtain⟨ks,cs,rfl⟩:∃ks cs,n=⟨false,ks,[],cs⟩:=⟨_,_,ef⟩
  simp only at n2 hne;obtain⟨hko,hcl,hrng⟩:=Bs.1 hat.sound;have hlv:=hat.level (x:=((h+1+1:Nat):Int)) (by show false=_;exact(decide_eq_false (by omega)).symm);have hlz:(AT s k ((h+1+1:Nat):Int)).2=0:=by rw[hlv]
  have hln:(AT s k ((h+1+1:Nat):Int)).1=⟨false,ks,[],cs⟩:=by rw[hlv]
  obtain⟨a,b,rfl,hf,ha,hb⟩:=GP hat.sound key;obtain⟨ca,c,cb,rfl,ec⟩:=F5 cs (i:=a.length) (by rw[hcl];simp;omega);have ecb:cb.length=b.length:=by simp at hcl;omega
  have e0:(⟨false,a++b,[],ca++[c]++cb⟩:Az).kids.getD a.length 0=c:=by show(ca++[c]++cb).getD a.length 0=c;rw[←ec];exact Dd
  have n2':Kd (Tr s (h+1)) (a++[]++b) (ca++[c]++cb) l Q:=by simpa using n2
  obtain⟨l1,m,l2,P1,Pm,P2,rfl,rfl,g1,g2,g3,g4,g5⟩:=n2'.focus (by simpa using hko) ec rfl;have hl1:∀x∈l1,Lt x.1 key:=fun x hx=>by
   obtain⟨p,p1,p2⟩:=g1.below x hx;exact Ho p2 (ha p p1)
  have hl2:∀x∈l2,Lt key x.1:=fun x hx=>by
   obtain⟨p,p1,p2⟩:=g3.MJ x hx;exact Ho (hb p p1) p2
  have hp:(k::(P1++Pm++P2)).Perm (Pm++(k::(P1++P2))):=Aeb.2 fun a=>by
     simp only[Aeg,Aeo];omega
  obtain⟨q1,q2,q3⟩:=Afl.1 (hp.nodup_iff.1 hnd);have q3':∀p∈k::(P1++P2),p∉Pm:=fun p h1 h2=>q3 p h2 p h1 rfl;have hR:∀p∈k::(P1++P2),A4 s p:=fun p hp=>by
   rcases Adu.1 hp with rfl|hp
   ·exact hat.liv
   ·exact(Adg.1 hp).elim (g1.live p) (g3.live p)
  rw[HX hlz hln hf (u:=BK s c key (h+1)) (by rw[e0])];have hisk:isK (l1++m++l2) key=isK m key:=DM hl1 hl2;have hdel:(B7 (l1++m++l2) key).1=l1++(B7 m key).1++l2:=by rw[J5 hl1 hl2]
  have ih:=ihh hG g2 q1;generalize BK s c key (h+1)=u at ih⊢;rcases ih with ⟨w1,w2,⟨w3,w4⟩|⟨w3,P',w4,w5⟩⟩|⟨w1,w2⟩
  ·rw[if_pos (.inr (by rw[w2,w3]))];exact .inl ⟨w1,by rw[w2,hisk],.inl ⟨by rw[hisk,w3],w4⟩⟩
  ·rw[if_neg (by rw[w1,w2,w3];simp)];have hsm:=w4.same hR q3';have w6:=w4.frame hR q2 q3';have hp2:(P'++(k::(P1++P2))).Perm (k::(P1++P'++P2)):=Aeb.2 fun a=>by
     simp only[Aeg,Aeo];omega
   have hnd2:=hp2.nodup_iff.1 w6.nd;have w7:=w6.perm hp hp2.symm;have hat':=hat.stay (hsm k (Ado ..));have g1':=g1.stay (fun p hp=>hsm p (by simp[hp]));have g3':=g3.stay (fun p hp=>hsm p (by simp[hp]));have ba:∀k∈a,∀x∈(B7 m key).1,¬Lt x.1 k:=fun p hp x hx=>g4 p hp x (Gm hx);have bb:∀k∈b,∀x∈(B7 m key).1,Lt x.1 k:=fun p hp x hx=>g5 p hp x (Gm hx);by_cases h2:u.2.1.other<0∧u.2.1.size<80
   ·rw[if_pos h2];obtain⟨n0,Q0,b1,b2,eP',b4⟩:∃n0 Q0,At u.1 u.2.1.page n0∧u.2.1.size=AY n0∧P'=u.2.1.page::Q0∧Nd u.1 (Tr u.1 h) (decide (h=0)) n0 (B7 m key).1 Q0:=by
     rcases w5 with ⟨_,n0,Q0,b1,b2,e,_,b4⟩|⟨z1,_⟩
     ·exact⟨n0,Q0,b1,b2,e,b4⟩
     ·omega
    subst eP';have hz0:AY n0≤79:=by have:=h2.2;omega
    have hsz:=hat.size;rw[size_inner] at hsz;have e1:(ca++[c]++cb).set a.length u.2.1.page=ca++[u.2.1.page]++cb:=by rw[←ec,Eh]
    simp only[e1];have fin:∀{r:PD×MdD×Int}{A:List Int}{l},(k::(P1++(u.2.1.page::Q0)++P2)).Perm A→l=l1++(B7 m key).1++l2→((r.2.2=0∧∃P'',Mv u.1 r.1 A P'' 4∧Out r.1 (h+1) 0 r.2.1 l P'')∨(r.2.2=190∧u.1.free<4))→
      ((r.2.2=0∧true=isK (l1++m++l2) key∧((isK (l1++m++l2) key=false∧r.1=s)∨(isK (l1++m++l2) key=true∧∃P'',Mv s r.1 (k::(P1++Pm++P2)) P'' (4*(h+1+1))∧Out r.1 (h+1) 0 r.2.1 (B7 (l1++m++l2) key).1 P'')))∨(r.2.2=190∧s.free<4*(h+1+1))):=by
     intro r A l hA el hr
     rcases hr with ⟨y1,P2',y2,y3⟩|⟨y1,y2⟩
     ·exact .inl ⟨y1,by rw[hisk,w3],.inr ⟨by rw[hisk,w3],P2',(w7.trans (y2.perm hA (Aeq _))).mono (by omega),by rw[hdel,←el];exact y3⟩⟩
     ·exact .inr ⟨y1,by have:=w4.fr;omega⟩
    by_cases hbe:b=[]
    ·subst hbe;rcases g3 with ⟨_,rfl,rfl,rfl⟩|⟨_,_,q,_⟩
     ·rcases g1' with ⟨rfl,_⟩|⟨a',kk,rfl,r1,r2⟩
      ·exact absurd rfl hne
      ·have hca:ca.length=a'.length+1:=by rw[ec];simp
       obtain⟨ca',c1,cx,rfl,ec'⟩:=F5 ca (i:=a'.length) (by omega);have hcx:cx=[]:=Adn (by simp at hca;omega);subst hcx;have r1':Kd (Tr u.1 (h+1)) (a'++[]++[]) (ca'++[c1]++[]) l1 P1:=by simpa using r1
       have hka:KO (a'++[kk]):=(KO.app.1 hko).1;obtain⟨x1,m1,x2,X1,Y1,X2,rfl,rfl,f1,f2,f3,f4,f5⟩:=r1'.focus (by simpa using (KO.app.1 hka).1) ec' rfl;rcases f3 with ⟨_,_,rfl,rfl⟩|⟨_,_,q,_⟩
       ·obtain⟨v1,V1,va,vb,rfl,vd⟩:=Kd.one.1 f2;refine fin (A:=k::(X1++(c1::V1++u.2.1.page::Q0)++[])) (l:=x1++(m1++(B7 m key).1)++[]) ?_ (by simp) ?_
        ·refine Aeb.2 fun a=>?_;simp only[Aeg,Aeo,Afs];omega
        ·have hm:=UZ w4.gd (i0:=a'.length+1) (a:=a') (b:=[]) (kk:=kk) (ca:=ca') (cb:=[]) (c1:=c1) (c2:=u.2.1.page) (l1:=x1) (l2:=[]) (P1:=X1) (P2:=[]) hat'.liv ec' rfl (by simpa using hka)
          (fun p hp=>hrng p (by simp at hp⊢;simp[hp])) (by rw[size_inner];simp only[Adj,Adm,Aem,Cg,Cz] at hsz⊢;omega) (by simp) f1 (.inl ⟨rfl,rfl,rfl,rfl⟩) va vd b1 b4
          (by have:=va.size;omega) (.inl vb) (fun x hx=>r2 x (by simp[hx])) (fun x hx=>ba kk (by simp) x hx)
          (fun p hp x hx=>(Adg.1 hx).elim (f4 p hp x) (ba p (by simp[hp]) x)) (fun p hp=>by cases hp) ?_
         ·have e2:(ca'++[c1]++[]++[u.2.1.page]++[]:List Int)=ca'++[c1,u.2.1.page]++[]:=by simp
          have e3:(a'++[kk]).length=a'.length+1:=by simp
          rw[e2,e3];exact hm
         ·refine(Aik ?_).1 hnd2;refine Aeb.2 fun a=>?_;simp only[Aeg,Aeo,Afs];omega
       ·cases q
     ·cases q
    ·rcases g3' with ⟨q,_⟩|⟨kk,b',rfl,r1,r2⟩
     ·exact absurd q hbe
     ·obtain⟨cx,c2,cb',rfl,ec'⟩:=F5 cb (i:=0) (by rw[ecb];simp);have hcx:cx=[]:=Adn ec';subst hcx;have r1':Kd (Tr u.1 (h+1)) ([]++[]++b') ([]++[c2]++cb') l2 P2:=by simpa using r1
      have hkb:KO (kk::b'):=(KO.app.1 hko).2.1;obtain⟨x1,m2,x2,X1,Y1,X2,rfl,rfl,f1,f2,f3,f4,f5⟩:=r1'.focus (by simpa using (KO.cons.1 hkb).2.1) rfl rfl;rcases f1 with ⟨_,_,rfl,rfl⟩|⟨_,_,q,_⟩
      ·obtain⟨v2,V2,va,vb,rfl,vd⟩:=Kd.one.1 f2;refine fin (A:=k::(P1++(u.2.1.page::Q0++c2::V2)++X2)) (l:=l1++((B7 m key).1++m2)++x2) ?_ (by simp) ?_
       ·refine Aeb.2 fun a=>?_;simp only[Aeg,Aeo,Afs];omega
       ·have hm:=UZ w4.gd (i0:=a.length) (a:=a) (b:=b') (kk:=kk) (ca:=ca) (cb:=cb') (c1:=u.2.1.page) (c2:=c2) (l1:=l1) (l2:=x2) (P1:=P1) (P2:=X2) hat'.liv ec (by simp at ecb;omega) (by simpa using hko)
          (fun p hp=>hrng p (by simp at hp⊢;rcases hp with hp|hp<;>simp[hp])) (by rw[size_inner];simp only[Adj,Adm,Aem,Cg,Cz] at hsz⊢;omega) (by simp) g1' f3 b1 b4 va vd
          (by have:=va.size;omega) (.inr vb) (fun x hx=>bb kk (by simp) x hx) (fun x hx=>r2 x (by simp[hx]))
          (fun p hp x hx=>(Adg.1 hx).elim (ba p hp x) (fun hx e=>r2 x (by simp[hx]) (FP e ((KO.app.1 hko).2.2 p hp kk (by simp)))))
          (fun p hp x hx=>(Adg.1 hx).elim (bb p (by simp[hp]) x) (f5 p hp x)) ?_
        ·have e2:(ca++[u.2.1.page]++([]++[c2]++cb'):List Int)=ca++[u.2.1.page,c2]++cb':=by simp
         have e3:a++kk::b'=a++[kk]++b':=by simp
         rw[e2,e3];exact hm
        ·refine(Aik ?_).1 hnd2;refine Aeb.2 fun a=>?_;simp only[Aeg,Aeo,Afs];omega
      ·simp at q
   ·rw[if_neg h2];have w5':Out u.1 h 1 u.2.1 (B7 m key).1 P':=by
     rcases w5 with ⟨z1,n0,Q0,b1,b2,rfl,_,b4⟩|w5
     ·refine .inl ⟨z1,n0,Q0,b1,b2,rfl,Em.1 (PQ b1.sound ?_),b4⟩;have:¬u.2.1.size<80:=fun q=>h2 ⟨z1,q⟩;omega
     ·exact .inr w5
    rcases Sv w4.gd hat' ec hne g1' g3' w5' ba bb hnd2 with ⟨y1,P2',y2,y3⟩|⟨y1,y2⟩
    ·refine .inl ⟨y1,by rw[hisk,w3],.inr ⟨by rw[hisk,w3],P2',(w7.trans y2).mono (by omega),?_⟩⟩;rw[hdel];rcases y3 with ⟨z1,n0,Q0,b1,b2,rfl,_,b4⟩|y3
     ·exact .inl ⟨z1,n0,Q0,b1,b2,rfl,Aej _,b4⟩
     ·exact .inr y3
    ·exact .inr ⟨y1,by have:=w4.fr;omega⟩
  ·rw[if_pos (.inl (by rw[w1];decide))];exact .inr ⟨w1,by omega⟩
def JD{key}:∀h,Rz key h
 |0=>ZC
 |h+1=>Yh (JD h)
end Go.Gk.Tre
end
section
namespace Go.Gk.Tre
open Go Go.Gk Go.Gk.Dev Go.Gk.Cch Go.Gk.Pgr Go.Gk.Chn Go.Gk.Node
attribute [local irreducible] gwp gws xwp
def OK(P:Program)(f:FuncId):Prop:=∀(x:Nat) {d s dv pv w cv L}{bt:Nat}{Tt}{r h c k:Int}{key cell},x≤1000000→PgT d s dv pv L→AM d w key→AM d cv cell→key.length≤1000→cell.length≤1000→ -1≤k→k≤16384→
 Av P f [pZ bt,vZ k,vZ ((x+1:Nat):Int),w,cv] d (tb bt Tt pv r h c::L) (Ret fun v d' L'=>Le d d'∧∃ua uc L2,v=.tuple #[mdV (Cb s k key cell (x+1)).2.1 ua uc,.bool (Cb s k key cell (x+1)).2.2.1,vZ (Cb s k key cell (x+1)).2.2.2]∧
  AM d' (.slice ua (Cb s k key cell (x+1)).2.1.key.length uc) (Cb s k key cell (x+1)).2.1.key∧MOk (Cb s k key cell (x+1)).2.1∧L'=tb bt Tt pv r h c::L2∧PgT d' (Cb s k key cell (x+1)).1 dv pv L2)
def Mb(a0 a1 a2 a3 a4 a5 a6 a7:Nat):A5:=⟨116,[(.cell 10 (some 4)),(.tmp 11),(.tmp 12)],(sR (o1 10 (.alo (.agg #[(vZ 0),(vZ 0),(.slice none 0 0),(vZ 0)]))<|o1 11 (.mv (.const (.bool false)))<|o1 12 (.mv z0) .done) (sR (om 24 0<|om 25 1<|om 26 2<|oc 27 a0 [24,25,26]<|om 23 27<|oe 28 23 0<|oe 29 23 1<|o1 13 (.alo (.agg #[(.bool false),(.slice none 0 0),(.slice none 0 0),(.slice none 0 0)]))<|o0 (.st 4 13 28)<|om 14 29 .done) (.seq (sR (om 30 14<|ob 31 .neq 30 z0 .done) (.cond 31 (sR (o1 32 (.bld [(0,1),(1,1),(2,1),(3,1)] [(vZ 0),(vZ 0),(.slice none 0 0),(vZ 0)] [])<|om 33 14<|o0 (.st 4 10 32)<|o1 11 (.mv (.const (.bool false)))<|om 12 33 .done) .ret) .skip)) (sR (o1 35 (.ld (some 4) 13)<|om 36 3<|oc 37 a1 [35,36]<|om 34 37<|oe 38 34 0<|oe 39 34 1<|om 15 38<|om 16 39 .done) (.seq (sR (om 40 2<|ob 41 .eql 40 z1 .done) (.cond 41 (.seq (sR (om 42 16 .done) (.cond 42 (.seq (sR (om 43 0<|oj 44 2 13<|ol 45 44<|om 46 15<|oI 47 1 45 46<|ol 48 47<|oc 49 a2 [43,48]<|om 17 49 .done) (sR (om 50 17<|ob 51 .neq 50 z0 .done) (.cond 51 (sR (o1 52 (.bld [(0,1),(1,1),(2,1),(3,1)] [(vZ 0),(vZ 0),(.slice none 0 0),(vZ 0)] [])<|om 53 17<|o0 (.st 4 10 52)<|o1 11 (.mv (.const (.bool false)))<|om 12 53 .done) .ret) .skip))) (rG (oj 54 2 13<|ol 55 54<|om 56 15<|om 57 4<|oI 58 1 55 56<|o0 (.st 1 58 57) .done))) (.reg true (p1 59 (.fld 1 13)<|pl 60 59<|pm 61 15<|pm 62 3<|p1 66 (.fld 2 13)<|pl 67 66<|pm 68 15<|pm 69 4 (.par (o1 70 (.bsl 1 1 [(.slice none 0 0)] [(0,69)]) .done) (oc 63 a3 [62] (o1 64 (.bsl 1 1 [(.slice none 0 0)] [(0,63)]) (oc 65 a4 [60,61,64] (p1 72 (.fld 1 13) .done)))) (oc 71 a4 [67,68,70] (.bar (o0 (.st 1 72 65) (p1 73 (.fld 2 13) (o0 (.st 1 73 71) .done)))))))))) (sR (om 75 0<|om 76 1<|o1 77 (.ld (some 4) 13)<|oc 78 a5 [75,76,77]<|om 74 78<|oe 79 74 0<|oe 80 74 1<|o1 18 (.alo (.agg #[(vZ 0),(vZ 0),(.slice none 0 0),(vZ 0)]))<|o0 (.st 4 18 79)<|om 19 80 .done) (sR (o1 81 (.ld (some 4) 18)<|om 82 16<|o1 83 (.un .not 82)<|om 84 19<|o0 (.st 4 10 81)<|om 11 83<|om 12 84 .done) .ret))) .skip)) (sR (om 86 0<|oj 87 3 13<|ol 88 87<|om 89 15<|oI 90 1 88 89<|ol 91 90<|om 92 2<|ob 93 .sub 92 z1<|om 94 3<|om 95 4<|oc 96 a6 [86,91,93,94,95]<|om 85 96<|oe 97 85 0<|oe 98 85 1<|oe 99 85 2<|o1 20 (.alo (.agg #[(vZ 0),(vZ 0),(.slice none 0 0),(vZ 0)]))<|o0 (.st 4 20 97)<|om 21 98<|om 14 99 .done) (.seq (sR (om 100 14<|ob 101 .neq 100 z0 .done) (.cond 101 (sR (o1 102 (.bld [(0,1),(1,1),(2,1),(3,1)] [(vZ 0),(vZ 0),(.slice none 0 0),(vZ 0)] [])<|om 103 14<|o0 (.st 4 10 102)<|o1 11 (.mv (.const (.bool false)))<|om 12 103 .done) .ret) .skip)) (sR (om 105 0<|om 106 1<|o1 107 (.ld (some 4) 13)<|om 108 15<|o1 109 (.ld (some 4) 20)<|oc 110 a7 [105,106,107,108,109]<|om 104 110<|oe 111 104 0<|oe 112 104 1<|o1 22 (.alo (.agg #[(vZ 0),(vZ 0),(.slice none 0 0),(vZ 0)]))<|o0 (.st 4 22 111)<|om 14 112 .done) (sR (o1 113 (.ld (some 4) 22)<|om 114 21<|om 115 14<|o0 (.st 4 10 113)<|om 11 114<|om 12 115 .done) .ret)))))))))⟩
set_option maxRecDepth 4000 in
set_option maxHeartbeats 4000000 in
def Abr{P f f1 f2 f3 f4 f5 f6 f8}(hd:Kc P f=some (Mb f1 f2 f3 f4 f5 f6 f f8))(h1:G5 P f1)(h2:JB P f2 findD)(h3:MZ P f3)(h4:Ef AP 1 P f4)(h5:Ks RBs P f5)(h6:H3 P f6)(h8:JN P f8):OK P f:=by
 intro x;induction x using Nat.strongRecOn with
 |ind x ih=>
 intro d s dv pv w cv L bt Tt r h c k key cell hx hp hw hcv hkl hcl hk0 hk1;obtain⟨bp,rfl⟩:=hp.ptr;have hG:=hp.Fm;obtain⟨tc0,hp⟩:=hp;obtain⟨wa,wc,rfl⟩:=hw.val;obtain⟨ca,cc,rfl⟩:=hcv.val;refine AF hd (Ada rfl) ?_;show gwp P _ _ _ _ _;apply Af;apply AB;refine B0 (fun b10 T10=>?_);(refine Ae rfl<|Ab rfl<|Aa<|Ad<|Am rfl<|Ab rfl<|Ab rfl ?_);refine A7 [_] (h1 (k:=k) (x:=((x+1:Nat):Int)) hp) rfl rfl (fun v d2 L2 hl ⟨_,cs,hk,hv,hi,L3,tc,e1,e2,hn,hp2,htc⟩=>?_);subst e1;subst e2;have hp2:PgT d2 s dv (pZ bp) L3:=⟨tc,hp2⟩
 rw[show AT {s with tc:=tc0} k ((x+1:Nat):Int)=AT s k ((x+1:Nat):Int) from rfl] at hn⊢;obtain⟨ka,kc,va,vc,ia,ic,rfl⟩:=hn.cells;(refine AU rfl<|Ao rfl rfl<|Ao rfl rfl<|B0 (fun _ _=>?_));rename_i b13 T13;refine Bn 0 rfl rfl rfl rfl (Adi _) rfl ?_;by_cases he:(AT s k ((x+1:Nat):Int)).2=0
 ·obtain⟨hr,hlf⟩:=Hq he;obtain⟨n,hne⟩:∃n,(AT s k ((x+1:Nat):Int)).1=n:=⟨_,rfl⟩
  rw[hne] at hn hr hlf⊢;obtain⟨hfit,hk64⟩:=Mn hr;obtain⟨i,b,hfd⟩:∃i b,findD n key=(i,b):=⟨_,_,rfl⟩
  have hile:i≤n.keys.length:=by have:=NN (n:=n) (key:=key);rw[hfd] at this;exact this
  rw[he];have hw2:=RSl.mono (R:=AP) A3 hw hl;have hcv2:=RSl.mono (R:=AP) A3 hcv hl;have hlv:n.leaf=true→n.vals.length=n.keys.length:=JO hr;have hli:n.leaf=false→n.kids.length=n.keys.length+1:=HW hr;have hkd:=LH hr;clear hr;have hnk:=hn;obtain⟨kv,vv,iv,q,r1,r2,r3⟩:=hn;cases q;(refine Ab rfl<|Aa<|Af<|Ad<|Ab rfl<|AN rfl rfl<|Aa<|Ar rfl (by omega)<|Ak<|Ad<|Bh 0 rfl rfl rfl<|Al rfl ?_);refine Jy rfl (v:=.tuple #[vZ i,.bool b]) (fun d1 hl1 hk1=>by
   have:=h2 (DU.IT ⟨_,_,_,rfl,r1,r2,r3⟩ hl1 (hk1 _ (by simp)) (hk1 _ (by simp)) (hk1 _ (by simp))) (RSl.mono (R:=AP) A3 hw2 hl1);rw[hfd] at this;exact this) ?_
  (refine AU rfl<|Ao rfl rfl<|Ao rfl rfl<|Ab rfl<|Ae rfl<|Aa ?_);apply Af;apply Af;apply AB;(refine Ab rfl<|AO rfl rfl<|Aa ?_);by_cases hx0:x=0
  ·subst hx0;have hvl:=hlv (by rw[hlf];rfl);clear hlv hli hlf;refine Ax rfl (by omega) ?_;refine Gc (fun ρ d' L'=>Le d2 d'∧∃cs' n' s' hk' hv' hi' L4 Lr,BI ρ [(0,pZ bt),(1,vZ k),(10,pZ b10),(13,pZ b13),(16,.bool b)]∧DU d' cs' n' hk' hv' hi'∧Fit n' 600∧PgT d' s' dv (pZ bp) L4∧
    Cb s k key cell (0+1)=((AW s' k n').1,(AW s' k n').2.1, !b,(AW s' k n').2.2)∧Lr.Perm [hk',hv',hi']∧L'=bx b13 T13 cs'::bx b10 T10 [vZ 0,vZ 0,.slice none 0 0,vZ 0]::(Lr++tb bt Tt (pZ bp) r h c::L4)) ?_ ?_
   ·cases b with
    |true=>
     have hilt:i<n.keys.length:=by have:=NV (n:=n) (key:=key) (by rw[hfd]);rw[hfd] at this;exact this
     have hiv:i<n.vals.length:=by omega
     have hI:=UR (cell:=cell) he hne hfd
     have hgv:n.vals.getD i []=n.vals[i]:=by rw[Adh,Ade hiv];rfl
     rw[hgv] at hI
     obtain⟨b1,T1,l1,c1,cs1,q1,rfl,hcl1,hcs,hle1,⟨u,rfl,hu⟩,hset⟩:=Ap.at (by omega) r2 hiv
     cases q1
     have c0:=hcs 0 _ rfl
     (refine Ad<|Ae rfl<|Aa<|Bj rfl<|Af<|Ad<|Am rfl<|Ai rfl<|Ag rfl (Aj 0 rfl rfl)<|Ab rfl<|Bz _ rfl rfl rfl (by omega)<|Ag rfl (Aj 3 rfl (by assumption)) ?_)
     refine A7 [_,_,_,_,_] (h3 hp2 hu) rfl rfl (fun v d3 L4 hl3 ⟨_,e3,L5,e4,hp5⟩=>?_)
     subst e3;subst e4
     by_cases hz:(BP s n.vals[i]).2=0
     ·rw[if_neg (fun q=>q hz)] at hI
      rw[hz]
      have hrow:=hset [.slice ca cell.length cc] cell rfl ⟨_,rfl,hcv2⟩
      (refine Ab rfl<|Aa<|Ad<|Ab rfl<|AN rfl rfl<|Aa<|Ar rfl (by omega)<|Ak<|AB<|Ai rfl<|Ag rfl (Aj 0 rfl rfl)<|Ab rfl<|Al rfl<|Bz _ rfl rfl rfl (by omega) ?_)
      refine A6 3 (patch l1 (i*1) [.slice ca cell.length cc]) rfl rfl rfl rfl (by omega) rfl rfl ?_
      (apply Aa)
      refine⟨hl3,_,{n with vals:=n.vals.set i cell},_,hk,_,hi,L5,[_,_,_],⟨rfl,rfl,rfl,rfl,rfl,trivial⟩,⟨_,_,_,rfl,r1.En hl3,hrow.En hl3,r3.Hk hl3⟩,⟨?_,?_,?_,hfit.kl,fun y hy=>?_⟩,hp5,hI,Aeq _,?_⟩
      ·have:=hfit.k;show n.keys.length≤600;omega
      ·have:=hfit.v;show(n.vals.set i cell).length≤600;rw[Aen];omega
      ·have:=hfit.i;show n.kids.length≤600;omega
      ·rcases PH hy with rfl|hy
       ·exact hcl
       ·exact hfit.vl y hy
      ·rfl
     ·rw[if_pos hz] at hI
      rw[hI]
      (refine Ab rfl<|Aa<|Ad<|Ab rfl<|AN rfl rfl<|Aa<|Ax rfl (by omega)<|Ad<|BR rfl<|Ab rfl ?_)
      refine Bn 1 rfl rfl rfl rfl (Adi _) rfl ?_
      (refine Ae rfl<|Ab rfl<|Aa<|An ?_)
      exact Bd [mdV Co none 0,.bool false,vZ (BP s n.vals[i]).2] ⟨AV 1 rfl rfl rfl,As rfl,As rfl,trivial⟩ (d':=d3) (L':=tb bt Tt (pZ bp) r h c::L5) (Vs.drop (.cons _ (.cons _ (.cons _ (.cons _ (.cons _ (Adb _))))))) ⟨hl.trans hl3,none,0,L5,rfl,RSl.nil,Ej,rfl,hp5⟩
    |false=>
     have hI:=Uy (cell:=cell) he hne hfd
     have hfk:=hfit.k
     have hfv:=hfit.v
     (refine Ad<|Ae rfl<|Aa<|AS rfl ?_)
     refine Bv [_,_] (hk::hv::hi::tb bt Tt (pZ bp) r h c::L3) rfl ?_
     (refine Ai rfl<|Ag rfl (Aj 0 rfl rfl)<|Ab rfl<|Al rfl<|Ai rfl<|Ag rfl (Aj 0 rfl rfl)<|Ab rfl<|Al rfl ?_)
     refine GK (α:=Nat×TypeId) (β:=Option Addr×Nat×Ac) [(0,pZ bt),(1,vZ k),(10,pZ b10),(13,pZ b13),(16,.bool false),(67,.slice va n.vals.length vc),(68,vZ i)]
      (fun x=>[(70,.slice (some ⟨x.1,0,none⟩) 1 1)]) (fun x d L=>L=[bx x.1 x.2 [.slice ca cell.length cc]]) (fun y=>[(65,.slice y.1 (n.keys.length+1) y.2.1),(72,.pointer (some ⟨b13,1,none⟩))])
      (fun y d' M=>Ap 1 RBs d' (.slice y.1 (n.keys.length+1) y.2.1) (B1 n.keys i key) y.2.2∧M=y.2.2::hv::hi::tb bt Tt (pZ bp) r h c::L3) [] _ rfl
      (fun x d d' M hl h=>h) (fun y d d' M hl h=>⟨h.1.En hl,h.2⟩) (fun x=>rfl) (fun y=>rfl) rfl ⟨rfl,rfl,rfl,rfl,rfl,rfl,rfl,trivial⟩ ?_ ?_ ?_
     ·refine D5 (v0:=.slice ca cell.length cc) rfl rfl (fun b70 T70=>?_)
      (apply A9)
      exact⟨_,rfl,(b70,T70),⟨rfl,trivial⟩,rfl⟩
     ·refine Bl rfl (h4 hw2 (by omega)) (fun v d3 L3' _ ⟨e0,hc,e1,hgc⟩=>?_)
      subst e0;subst e1
      obtain⟨ga0,gc0,rfl⟩:=hgc.val
      refine MB (fun d4 hl4 hg4=>?_)
      have hkey4:AM d4 (.slice ga0 key.length gc0) key:=Ap.rsl (R:=AP) (sz:=1) hgc A3 (by omega) hl4 hg4
      refine D5 (v0:=.slice ga0 key.length gc0) rfl rfl (fun b64 T64=>?_)
      refine DN (A:=[_,_]) rfl rfl (h5 (r1.En hl4) hile (by omega) ⟨_,rfl,hkey4⟩ FL) (fun v d5 L5 hl5 ⟨e2,h',e3,hg⟩=>?_)
      subst e2;subst e3
      have hgl:=Fk (y:=key) hile
      obtain⟨ga,gc,rfl⟩:=hg.val
      rw[hgl] at hg⊢
      (refine Ai rfl<|A9 ?_)
      exact⟨_,rfl,(ga,gc,h'),⟨rfl,rfl,trivial⟩,hg,rfl⟩
     ·rintro⟨b70,T70⟩ ⟨ga,gc,h65⟩ ρ2 d3 M1 M2 hl3 hM1 ⟨hg65,hM2⟩
      subst hM1;subst hM2
      simp only at hg65⊢
      refine Dh (A:=[bx b70 T70 [.slice ca cell.length cc],hv]) (h5 (r2.En hl3) (show i≤n.vals.length by omega) (by omega) ⟨_,rfl,RSl.mono (R:=AP) A3 hcv2 hl3⟩ FL) (Ads _ (Aep (l₁:=[_]))) rfl (fun v d4 L4 hl4 ⟨e0,h71,e1,hg71⟩=>?_)
      subst e0;subst e1
      obtain⟨za,zc,rfl⟩:=hg71.val
      refine⟨_,_,Vs.refl _ _,?_⟩
      apply Ch
      refine A6 0 [.bool n.leaf,.slice ga (n.keys.length+1) gc,.slice va n.vals.length vc,.slice ia n.kids.length ic] rfl rfl rfl rfl (Ada rfl) rfl rfl ?_
      (apply Ai;rfl)
      refine A6 0 [.bool n.leaf,.slice ga (n.keys.length+1) gc,.slice za (B1 n.vals i cell).length zc,.slice ia n.kids.length ic] rfl rfl rfl rfl (Ada rfl) rfl rfl ?_
      (apply Aa)
      refine⟨hl3,_,{n with keys:=B1 n.keys i key,vals:=B1 n.vals i cell},s,h65,h71,hi,L3,[_,_,_],⟨rfl,rfl,rfl,rfl,rfl,trivial⟩,⟨_,_,_,rfl,hg65,hg71,r3.Hk hl3⟩,⟨?_,?_,?_,fun y hy=>?_,fun y hy=>?_⟩,hp2.mono hl3,hI,Aee _ _ _,?_⟩
      ·show(B1 n.keys i key).length≤600
       rw[Fk hile];omega
      ·show(B1 n.vals i cell).length≤600
       rw[Fk (by omega)];omega
      ·have:=hfit.i;show n.kids.length≤600;omega
      ·rcases Kk hy with rfl|hy
       ·exact hkl
       ·exact hfit.kl y hy
      ·rcases Kk hy with rfl|hy
       ·exact hcl
       ·exact hfit.vl y hy
      ·rfl
   ·rintro ρ d' L' ⟨hle,cs',n',s',hk',hv',hi',L4,Lr,hsl,hn',hfit',hp',hI,hpm,hLL⟩;subst hLL;rw[hI];obtain⟨ka',kc',va',vc',ia',ic',rfl⟩:=hn'.cells;refine Dw _ hsl ?_;obtain⟨d4,hl4,v4,hn4⟩:=FK hn';have hmo:=Hc hp'.Fm (n:=n') hk0 hk1 hfit'.kl;(refine Ad<|Am rfl<|Ab rfl<|Bh 0 rfl rfl rfl ?_);refine B9 _ _ (Vs.out [_,_] _ hpm v4) ?_;refine A7 [_,_] (h6 (k:=k) (hp'.mono hl4) hn4 (hfit'.small (by omega))) rfl rfl (fun v d5 L5 hl5 ⟨_,ua,uc,L6,e5,hk5,e6,hp6⟩=>?_);subst e5;subst e6;(refine AU rfl<|Ao rfl rfl<|Ao rfl rfl<|B0 (fun _ _=>?_));rename_i b18 T18;refine Bn 0 rfl rfl rfl rfl (Adi _) rfl ?_;(refine Ab rfl<|Aa<|Ad<|Bh 0 rfl rfl rfl<|Ae rfl<|Bx rfl<|Ab rfl ?_);refine Bn 2 rfl rfl rfl rfl (Adi _) rfl ?_;(refine Ae rfl<|Ab rfl<|Aa<|An ?_);exact Bd [mdV (AW s' k n').2.1 ua uc,.bool (!b),vZ (AW s' k n').2.2] ⟨AV 2 rfl rfl rfl,As rfl,As rfl,trivial⟩ (d':=d5) (L':=tb bt Tt (pZ bp) r h c::L6) (Vs.drop (.cons _ (.cons _ (.cons _ (Adb _))))) ⟨((hl.trans hle).trans hl4).trans hl5,ua,uc,L6,rfl,hk5,hmo,rfl,hp6⟩
  ·obtain⟨x,rfl⟩:∃y,x=y+1:=⟨x - 1,by omega⟩
   have hil:=hli (by rw[hlf];simp;omega);clear hlv hli hlf;have hI:=OU (key:=key) (cell:=cell) he hne hfd;have hii:i<n.kids.length:=by omega
   have hgk:n.kids.getD i 0=n.kids[i]:=by rw[Adh,Ade hii];rfl
   rw[hgk] at hI;have hkb:=hkd _ (Aec hii);have hnk0:=hnk;obtain⟨b1,T1,l1,c1,cs1,q1,rfl,hcl1,hcs,hle1,⟨rfl,hb1,hb2⟩, -⟩:=Ap.at (by omega) r3 hii;cases q1;have c0:=hcs 0 _ rfl;refine Ar rfl (by omega) ?_;(refine Ak<|Ad<|Am rfl<|Ai rfl<|Ag rfl (Aj 0 rfl rfl)<|Ab rfl<|Bz _ rfl rfl rfl (by omega)<|Ag rfl (Aj 4 rfl (by assumption))<|Ab rfl<|C6 rfl rfl (by omega) (by omega)<|Al rfl<|Al rfl ?_);refine Ft (g:=93) (v:=vZ ((x+1:Nat):Int)) (congrArg (Value.int .i64) (by push_cast;omega)) ?_;skip;refine A7 [_,_,_,_,_] (ih x (Nat.lt_succ_self x) (k:=n.kids[i]) (by omega) hp2 hw2 hcv2 hkl hcl (by omega) (by omega)) rfl rfl (fun v d3 L4 hl3 ⟨_,ua,uc,L5,e3,hk3,hm3,e4,hp5⟩=>?_);subst e3;subst e4;generalize Cb s n.kids[i] key cell (x+1)=U at hI hk3 hm3 hp5;(refine AU rfl<|Ao rfl rfl<|Ao rfl rfl<|Ao rfl rfl<|B0 (fun _ _=>?_));rename_i b20 T20;refine Bn 0 rfl rfl rfl rfl (Adi _) rfl ?_;by_cases hz:U.2.2.2=0
   ·rw[if_neg (fun q=>q hz)] at hI;rw[hI,hz];have hmo:=Qz hp5.Fm (n:=n) (i:=i) hk0 hk1 hfit.kl hm3;(refine Ae rfl<|Ab rfl<|Aa<|Af<|Ad<|Ab rfl<|AN rfl rfl<|Aa<|Ar rfl (by omega)<|Ak<|Ad<|Am rfl<|Ab rfl<|Bh 1 rfl rfl rfl<|Ab rfl<|Bh 0 rfl rfl rfl ?_);refine A7 [_,_,_] (h8 (k:=k) (n:=n) (i:=i) (m:=U.2.1) hp5 (hnk0.mono hl3) ⟨by have:=hfit.k;omega,by have:=hfit.v;omega,by have:=hfit.i;omega,hfit.kl,hfit.vl⟩ hii (fun _=>hile) hm3 hk3) rfl rfl (fun v d6 L6 hl6 ⟨_,ua',uc',L7,e6,hk6,e7,hp7⟩=>?_);subst e6;subst e7;(refine AU rfl<|Ao rfl rfl<|Ao rfl rfl<|B0 (fun _ _=>?_));rename_i b22 T22;refine Bn 0 rfl rfl rfl rfl (Adi _) rfl ?_;(refine Ab rfl<|Aa<|Ad<|Bh 0 rfl rfl rfl<|Ae rfl<|Ab rfl ?_);refine Bn 3 rfl rfl rfl rfl (Adi _) rfl ?_;(refine Ae rfl<|Ab rfl<|Aa<|An ?_);exact Bd [mdV (BJ U.1 k n i U.2.1).2.1 ua' uc',.bool U.2.2.1,vZ (BJ U.1 k n i U.2.1).2.2] ⟨AV 3 rfl rfl rfl,As rfl,As rfl,trivial⟩ (d':=d6) (L':=tb bt Tt (pZ bp) r h c::L7) (Vs.drop (.cons _ (.cons _ (.cons _ (.cons _ (Adb _)))))) ⟨(hl.trans hl3).trans hl6,ua',uc',L7,rfl,hk6,hmo,rfl,hp7⟩
   ·rw[if_pos hz] at hI;rw[hI];(refine Ae rfl<|Ab rfl<|Aa<|Af<|Ad<|Ab rfl<|AN rfl rfl<|Aa<|Ax rfl (by omega)<|Ad<|BR rfl<|Ab rfl ?_);refine Bn 2 rfl rfl rfl rfl (Adi _) rfl ?_;(refine Ae rfl<|Ab rfl<|Aa<|An ?_);exact Bd [mdV Co none 0,.bool false,vZ U.2.2.2] ⟨AV 2 rfl rfl rfl,As rfl,As rfl,trivial⟩ (d':=d3) (L':=tb bt Tt (pZ bp) r h c::L5) (Vs.drop (.cons _ (.cons _ (.cons _ (.cons _ (.cons _ (.cons _ (Adb _)))))))) ⟨hl.trans hl3,none,0,L5,rfl,RSl.nil,Ej,rfl,hp5⟩
 ·rw[Yo he];(refine Ab rfl<|Aa<|Af<|Ad<|Ab rfl<|AN rfl rfl<|Aa<|Ax rfl (by omega)<|Ad<|BR rfl<|Ab rfl ?_);refine Bn 1 rfl rfl rfl rfl (Adi _) rfl ?_;(refine Ae rfl<|Ab rfl<|Aa<|An ?_);exact Bd [mdV Co none 0,.bool false,vZ (AT s k ((x+1:Nat):Int)).2] ⟨AV 1 rfl rfl rfl,As rfl,As rfl,trivial⟩ (d':=d2) (L':=tb bt Tt (pZ bp) r h c::L3) (Vs.drop (.cons _ (.cons _ (.cons _ (.cons _ (.cons _ (Adb _))))))) ⟨hl,none,0,L3,rfl,RSl.nil,Ej,rfl,hp2⟩
end Go.Gk.Tre
end
section
namespace Go.Gk.Tre
open Go Go.Gk Go.Gk.Dev Go.Gk.Cch Go.Gk.Pgr Go.Gk.Chn Go.Gk.Node
def Sw:∀(l:List Int) (s:PD),Pgr.AH s (DF s l)
 |[],s=>Pgr.AH.refl s
 |k::l,s=>(Pgr.AH.drop s k).trans (Sw l _)
def Od:∀(n:Nat) (s:PD) (l:List Int),Pgr.AH s (BY s l n).1
 |0,s,l=>Pgr.AH.refl s
 |n+1,s,l=>by
  rw[BY];split
  ·exact(Pgr.AH.AX s).trans (Od n _ _)
  ·exact Pgr.AH.AX s
def UY{s}{l:List Int}{b}:∀i,Pgr.AH s (Chn.DH s l b i)
 |0=>Pgr.AH.refl s
 |i+1=>(UY i).trans (Pgr.AH.put _ _ _)
def Abi(s:PD)(b:List UInt8):Pgr.AH s (Cd s b).1:=by
 have h:Pgr.AH s (Chn.BC s (AQ b.length)).1:=by
  unfold Chn.BC;split
  ·exact Od _ _ _
  ·exact(Od _ _ _).trans (Sw _ _)
 unfold Cd;dsimp only;split
 ·exact h.trans (UY _)
 ·exact h
def SH:∀(l:List Int) (s:PD),Pgr.AH s (DI s l).1
 |[],s=>Pgr.AH.refl s
 |k::l,s=>by
  rw[DI];split
  ·exact(Pgr.AH.drop s k).trans (SH l _)
  ·exact Pgr.AH.drop s k
def Zd(s:PD)(k n:Int):Pgr.AH s (DZ s k n).1:=by
 unfold DZ;split
 ·exact SH _ _
 ·exact Pgr.AH.refl s
def ME(s:PD)(c:List UInt8):Pgr.AH s (BP s c).1:=by
 unfold BP;split
 ·exact Pgr.AH.refl s
 ·split
  ·exact Zd _ _ _
  ·exact Pgr.AH.refl s
def MO(s:PD)(v:List UInt8):Pgr.AH s (BZ s v).1:=by
 unfold BZ;split
 ·exact Pgr.AH.refl s
 ·exact Abi s v
def H5(s:PD)(k:Int)(n:Az):Pgr.AH s (Br s k n).1:=by
 unfold Br;split
 ·split
  ·exact Pgr.AH.put _ _ _
  ·split
   ·exact Pgr.AH.AX s
   ·split
    ·split
     ·exact(Pgr.AH.AX s).trans (Pgr.AH.drop _ _)
     ·exact((Pgr.AH.AX s).trans (Pgr.AH.drop _ _)).trans (Pgr.AH.put _ _ _)
    ·exact(Pgr.AH.AX s).trans (Pgr.AH.put _ _ _)
 ·exact Pgr.AH.refl s
def E9(s:PD)(k:Int)(n:Az):Pgr.AH s (AW s k n).1:=by
 unfold AW;split
 ·exact H5 _ _ _
 ·split
  ·show Pgr.AH s (if (Br s k (AZ n)).2.2=0 then _ else _:PD×MdD×Int).1;split
   ·exact(H5 _ _ _).trans (H5 _ _ _)
   ·exact H5 _ _ _
  ·exact Pgr.AH.refl s
def SL(s:PD)(k:Int)(n:Az)(i:Nat)(m:MdD):Pgr.AH s (BJ s k n i m).1:=by
 unfold BJ;split
 ·exact Pgr.AH.refl s
 ·split
  ·exact E9 _ _ _
  ·exact E9 _ _ _
def OQ(key cell:List UInt8):∀(h:Nat) (s:PD) (k:Int),Pgr.AH s (Cb s k key cell h).1
 |0,s,k=>Pgr.AH.refl s
 |h+1,s,k=>by
  rw[Cb];dsimp only;split
  ·exact Pgr.AH.refl s
  ·split
   ·split
    ·split
     ·exact ME _ _
     ·exact(ME _ _).trans (E9 _ _ _)
    ·exact E9 _ _ _
   ·split
    ·exact OQ key cell h _ _
    ·exact(OQ key cell h _ _).trans (SL _ _ _ _ _)
def Aan(s:PD)(k:Int)(n:Az)(i:Nat):Pgr.AH s (C1 s k n i).1:=by
 unfold C1;split
 ·exact Pgr.AH.refl s
 ·dsimp only;generalize (if i=n.keys.length then i - 1 else i)=j;split
  ·exact Pgr.AH.refl s
  ·split
   ·exact Pgr.AH.refl s
   ·split
    ·exact Pgr.AH.refl s
    ·split
     ·exact E9 _ _ _
     ·split
      ·exact(E9 _ _ _).trans (Pgr.AH.drop _ _)
      ·split
       ·exact((E9 _ _ _).trans (Pgr.AH.drop _ _)).trans (E9 _ _ _)
       ·exact((E9 _ _ _).trans (Pgr.AH.drop _ _)).trans (E9 _ _ _)
def O2(key:List UInt8):∀(h:Nat) (s:PD) (k:Int),Pgr.AH s (BK s k key h).1
 |0,s,k=>Pgr.AH.refl s
 |h+1,s,k=>by
  rw[BK];dsimp only;split
  ·exact Pgr.AH.refl s
  ·split
   ·split
    ·split
     ·exact ME _ _
     ·exact(ME _ _).trans (E9 _ _ _)
    ·exact Pgr.AH.refl s
   ·split
    ·exact O2 key h _ _
    ·have h0:=O2 key h s ((AT s k ((h+1:Nat):Int)).1.kids.getD (findD (AT s k ((h+1:Nat):Int)).1 key).1 0);split
     ·exact h0.trans (Aan _ _ _ _)
     ·exact h0.trans (SL _ _ _ _ _)
def UX(t:TD)(m:MdD):Pgr.AH t.s (CP t m).1.s:=by
 unfold CP;split
 ·exact Pgr.AH.refl _
 ·exact H5 _ _ _
def Xn(t:TD):Pgr.AH t.s (CH t).1.s:=by
 unfold CH;dsimp only;split
 ·exact Pgr.AH.refl _
 ·split
  ·exact Pgr.AH.drop _ _
  ·exact Pgr.AH.drop _ _
def X9(t:TD)(key value:List UInt8):Pgr.AH t.s (CU t key value).1.s:=by
 unfold CU;dsimp only;split
 ·exact MO _ _
 ·split
  ·exact(MO _ _).trans (H5 _ _ _)
  ·split
   ·exact(MO _ _).trans (OQ _ _ _ _ _)
   ·exact((MO _ _).trans (OQ _ _ _ _ _)).trans (UX {t with s:=_,count:=_} _)
def R3(t:TD)(key:List UInt8):Pgr.AH t.s (BF t key).1.s:=by
 unfold BF;split
 ·exact Pgr.AH.refl _
 ·dsimp only;split
  ·exact O2 _ _ _ _
  ·have h:=(O2 key t.height t.s t.root).trans (UX {t with s:=(BK t.s t.root key t.height).1,count:=t.count - 1} (BK t.s t.root key t.height).2.1);split
   ·exact h
   ·exact h.trans (Xn _)
end Go.Gk.Tre
end
section
namespace Go.Gk.Tre
open Go Go.Gk Go.Gk.Dev Go.Gk.Cch Go.Gk.Pgr Go.Gk.Chn Go.Gk.Node
attribute [local irreducible] gwp gws xwp
variable{s:PD}{root:Int}
structure Mg (t:TD):Prop where
 r0: -1≤t.root
 r1:t.root≤16384
 h:t.height≤900000
 c:t.count≤900000
def Zf(s:PD)(v:List UInt8):(BZ s v).2.1.length≤16:=by
 unfold BZ;split
 ·rename_i h;simp;omega
 ·simp[Gu]
def Na(a0 a1 a2 a3 a4:Nat):A5:=⟨76,[(.tmp 3)],(sR (o1 3 (.mv z0) .done) (sR (ol 11 0<|ol 12 1<|oc 13 a0 [11,12]<|om 10 13<|oe 14 10 0<|oe 15 10 1<|om 4 14<|om 5 15 .done) (.seq (sR (om 16 5<|ob 17 .neq 16 z0 .done) (.cond 17 (sR (om 18 5<|om 3 18 .done) .ret) .skip)) (.seq (sR (ol 19 0<|o1 20 (.nilc 19)<|oj 21 2 20<|ol 22 21<|ob 23 .eql 22 z0 .done) (.cond 23 (sR (ol 25 0<|ol 26 2<|o1 27 (.bsl 1 1 [(.slice none 0 0)] [(0,26)])<|om 28 4<|o1 29 (.bsl 1 1 [(.slice none 0 0)] [(0,28)])<|o1 30 (.bld [(0,1),(1,1),(2,1),(3,1)] [(.bool false),(.slice none 0 0),(.slice none 0 0),(.slice none 0 0)] [(0,(.const (.bool true))),(1,27),(2,29)])<|oc 31 a1 [25,(kZ (-1)),30]<|om 24 31<|oe 32 24 0<|oe 33 24 1<|om 6 32<|om 7 33 .done) (sR (ol 34 0<|ol 35 0<|ol 36 0<|om 37 6<|o1 38 (.nilc 34)<|oj 39 1 38<|o0 (.st 1 39 37)<|o1 40 (.nilc 35)<|oj 41 2 40<|o0 (.st 1 41 z1)<|o1 42 (.nilc 36)<|oj 43 3 42<|o0 (.st 1 43 z1) .done) (sR (om 44 7<|om 3 44 .done) .ret))) .skip)) (.seq (.reg true (pl 46 0<|pl 47 0<|p1 48 (.nilc 47)<|p1 49 (.fld 1 48)<|pl 50 49<|pl 51 0<|p1 52 (.nilc 51)<|p1 53 (.fld 2 52)<|pl 54 53<|pl 55 2<|pm 56 4 (.par (o1 8 (.alo (.agg #[(vZ 0),(vZ 0),(.slice none 0 0),(vZ 0)])) .done) (oc 57 a2 [46,50,54,55,56] (pm 45 57 (p1 58 (.ext 45 0) (p1 59 (.ext 45 1) (p1 60 (.ext 45 2) .done))))) (o0 (.st 4 8 58) (pm 9 59 (pm 5 60 .done)))))) (.seq (sR (om 61 5<|ob 62 .neq 61 z0 .done) (.cond 62 (sR (om 63 5<|om 3 63 .done) .ret) .skip)) (.seq (.reg true (pl 64 0<|p1 65 (.nilc 64)<|p1 66 (.fld 3 65)<|pl 67 66<|pm 68 9<|oc 69 a3 [68]<|p1 70 (.bin .add 67 69)<|p1 71 (.nilc 64)<|p1 72 (.fld 3 71) (.bar (o0 (.st 1 72 70) .done)))) (sR (ol 73 0<|o1 74 (.ld (some 4) 8)<|oc 75 a4 [73,74]<|om 3 75 .done) .ret))))))))⟩
def CW(t:TD)(key value:List UInt8):TD×Int:=
 if BV key≠0 then(t,BV key) else if 16384<value.length then(t,3) else(B8 t (CU t key value).1 (CU t key value).2,(CU t key value).2)
def Pq(a0 a1 a2:Nat):A5:=⟨20,[(.tmp 6)],(sR (o1 3 (.box 0)<|o1 4 (.box 1)<|o1 5 (.box 2)<|o1 6 (.mv z0) .done) (.seq (sR (ol 8 3<|ol 9 4<|oc 10 a0 [8,9]<|om 7 10 .done) (sR (om 11 7<|ob 12 .neq 11 z0 .done) (.cond 12 (sR (om 13 7<|om 6 13 .done) .ret) .skip))) (.seq (sR (ol 14 5<|oL 15 14<|ob 16 .gtr 15 (kZ 16384) .done) (.cond 16 (sR (o1 6 (.mv (kZ 3)) .done) .ret) .skip)) (sR (ol 17 3<|o1 18 (.mkf (.func a1) [] [3,5,4])<|oc 19 a2 [17,18]<|om 6 19 .done) .ret))))⟩
def M5(P:Program)(f:FuncId):Prop:=∀{d}{t:TD}{bt pb:Nat}{Tt L},CV P f [pZ bt] d (tbD bt Tt (pZ pb) t::L) (vZ t.root)
def NO(a0:Nat):A5:=⟨9,[(.tmp 2)],(sR (o1 2 (.mv z0) .done) (.seq (sR (om 3 0<|oc 4 a0 [3] .done) (.cond 4 (sR (o1 2 (.mv (kZ (-1))) .done) .ret) .skip)) (sR (om 5 0<|o1 6 (.nilc 5)<|oj 7 1 6<|ol 8 7<|om 2 8 .done) .ret)))⟩
def Y6{P f f1}(hd:dec P f=some (NO f1))(h1:G3 P f1):M5 P f:=by
 intro d t bt pb Tt L;refine AF hd (Ada rfl) ?_;show gwp P _ _ _ _ _;(refine Ad<|Ab rfl<|Aa<|Af<|Ad<|Am rfl ?_);refine Ci [] (h1 (L:=L)) rfl rfl ?_;(refine Aa<|AS rfl<|Ak<|Ad<|Am rfl<|Au rfl<|Ai rfl<|Ag rfl (Aj 0 rfl rfl)<|Ab rfl<|Aa<|An ?_);exact BO rfl (Adb _) ⟨rfl,rfl,rfl⟩
def I0(P:Program)(f:FuncId):Prop:=∀{d}{t:TD}{bt pb:Nat}{Tt L},CV P f [pZ bt] d (tbD bt Tt (pZ pb) t::L) (vZ t.height)
def Mo(a0:Nat):A5:=⟨9,[(.tmp 2)],(sR (o1 2 (.mv z0) .done) (.seq (sR (om 3 0<|oc 4 a0 [3] .done) (.cond 4 (sR (o1 2 (.mv z0) .done) .ret) .skip)) (sR (om 5 0<|o1 6 (.nilc 5)<|oj 7 2 6<|ol 8 7<|om 2 8 .done) .ret)))⟩
def VD{P f f1}(hd:dec P f=some (Mo f1))(h1:G3 P f1):I0 P f:=by
 intro d t bt pb Tt L;refine AF hd (Ada rfl) ?_;show gwp P _ _ _ _ _;(refine Ad<|Ab rfl<|Aa<|Af<|Ad<|Am rfl ?_);refine Ci [] (h1 (L:=L)) rfl rfl ?_;(refine Aa<|AS rfl<|Ak<|Ad<|Am rfl<|Au rfl<|Ai rfl<|Ag rfl (Aj 0 rfl rfl)<|Ab rfl<|Aa<|An ?_);exact BO rfl (Adb _) ⟨rfl,rfl,rfl⟩
def ID(P:Program)(f:FuncId):Prop:=∀{d}{t:TD}{bt pb:Nat}{Tt L},CV P f [pZ bt] d (tbD bt Tt (pZ pb) t::L) (vZ t.count)
def Ni(a0:Nat):A5:=⟨9,[(.tmp 2)],(sR (o1 2 (.mv z0) .done) (.seq (sR (om 3 0<|oc 4 a0 [3] .done) (.cond 4 (sR (o1 2 (.mv z0) .done) .ret) .skip)) (sR (om 5 0<|o1 6 (.nilc 5)<|oj 7 3 6<|ol 8 7<|om 2 8 .done) .ret)))⟩
def XK{P f f1}(hd:dec P f=some (Ni f1))(h1:G3 P f1):ID P f:=by
 intro d t bt pb Tt L;refine AF hd (Ada rfl) ?_;show gwp P _ _ _ _ _;(refine Ad<|Ab rfl<|Aa<|Af<|Ad<|Am rfl ?_);refine Ci [] (h1 (L:=L)) rfl rfl ?_;(refine Aa<|AS rfl<|Ak<|Ad<|Am rfl<|Au rfl<|Ai rfl<|Ag rfl (Aj 0 rfl rfl)<|Ab rfl<|Aa<|An ?_);exact BO rfl (Adb _) ⟨rfl,rfl,rfl⟩
def UN{n:Nat}{key}:∀(x:Nat) (k:Int),EW (wtc s n) key k x=EW s key k x
 |0,_=>rfl
 |x+1,k=>by
  rw[EW,EW,show AT (wtc s n) k ((x+1:Nat):Int)=AT s k ((x+1:Nat):Int) from rfl];simp only[U3,UN x]
def YO{n:Nat}{h c:Nat}{key}:Ec ⟨wtc s n,root,h,c⟩ key=Ec ⟨s,root,h,c⟩ key:=by
 unfold Ec;simp only[UN]
def Aad{P f d}{h c:Nat}{dv pv kv L}{bt:Nat}{Tt key}(hf:Mh P f)(hp:PgT d s dv pv L)(hk:AM d kv key)(hh:h≤1000000):
  Av P f [pZ bt,kv] d (tb bt Tt pv root h c::L) (Ret fun v d' L'=>Le d d'∧∃u L2,v=.tuple #[u,.bool (Ec ⟨s,root,h,c⟩ key).2.1,vZ (Ec ⟨s,root,h,c⟩ key).2.2]∧AM d' u (Ec ⟨s,root,h,c⟩ key).1∧L'=tb bt Tt pv root h c::L2∧PgT d' s dv pv L2):=by
 obtain⟨n,hp⟩:=hp
 refine Av.DL (hf (t:=⟨wtc s n,root,h,c⟩) (bt:=bt) (Tt:=Tt) hp hk hh) (fun r d' L' _ ⟨h0,u,L2,tc,h1,h2,h3,h4,_⟩=>⟨d',L',Vs.refl _ _,?_⟩)
 rw[YO] at h1 h2
 exact⟨h0,u,L2,h1,h2,h3,tc,h4⟩
def WN{d v l}(hl:l.length≤140737488355328)(h:∃b c cs,v=.slice (some ⟨b,0,none⟩) l.length c∧l.length≤c∧c≤9223372036854775807∧DCs d b 0 cs∧cs.length=c∧cs.take l.length=l.map AA):AM d v l:=by
 obtain⟨b,c,cs,rfl,h1,h2,h3,h4,h5⟩:=h;refine⟨some ⟨b,0,none⟩,c,b,0,rfl,SAd.some _ _ _,fun _ a' q=>(by cases q;rfl),fun q=>(by cases q),h1,h2,hl,fun i hi=>⟨[AA l[i]],rfl,?_,rfl⟩⟩
 have h6:cs[i]?=some (AA l[i]):=by
  have:=congrArg (·[i]?) h5;simp only[Afq,Ade hi,Option.map_some] at this;rw[List.getElem?_take_of_lt hi] at this;exact this
 have:=(h3.at h6).cells;rw[Afn];exact this
end Go.Gk.Tre
end
section
namespace Go.Gk.Tre
open Go Go.Gk Go.Gk.Dev Go.Gk.Cch Go.Gk.Pgr Go.Gk.Chn Go.Gk.Node
variable{t:TD}{l:List KV}{P:List Int}
structure Tok (t:TD) (l:List KV) (P:List Int):Prop where
 gd:Pgr.Good t.s
 nd:P.Nodup
 ct:t.count=l.length
 tr:(t.height=0∧t.root= -1∧l=[]∧P=[])∨∃h,t.height=h+1∧Tr t.s (h+1) t.root l P
def Tok.live(h:Tok t l P):∀p∈P,A4 t.s p:=by
 rcases h.tr with ⟨_,_,_,rfl⟩|⟨x,_,q⟩
 ·exact fun p hp=>by cases hp
 ·exact q.live
def Mv.id{s}(hG:Pgr.Good s)(h1:∀p∈P,A4 s p)(h2:P.Nodup):Mv s s P P 0:=by
 simpa using (Mv.refl hG).frame h1 h2 (fun p _ q=>by cases q)
def Tok.id(h:Tok t l P):Mv t.s t.s P P 0:=Mv.id h.gd h.live h.nd
def NL{s}(hG:Pgr.Good s){h:Nat}{md:MdD}(ho:0≤md.other)(o:Out s h 0 md l P)(hnd:P.Nodup):
  ((Br s (-1) ⟨false,[md.key],[],[md.page,md.other]⟩).2.2=0∧∃P',Mv s (Br s (-1) ⟨false,[md.key],[],[md.page,md.other]⟩).1 P P' 1∧
   Tr (Br s (-1) ⟨false,[md.key],[],[md.page,md.other]⟩).1 (h+1+1) (Br s (-1) ⟨false,[md.key],[],[md.page,md.other]⟩).2.1 l P'∧
   At (Br s (-1) ⟨false,[md.key],[],[md.page,md.other]⟩).1 (Br s (-1) ⟨false,[md.key],[],[md.page,md.other]⟩).2.1 ⟨false,[md.key],[],[md.page,md.other]⟩)∨
  ((Br s (-1) ⟨false,[md.key],[],[md.page,md.other]⟩).2.2=190∧s.free<1):=by
 have hlv:=o.live
 rcases o with ⟨q,_⟩|⟨_,_,l1,l2,P1,P2,rfl,rfl,g1,g2,g3,g4,g5,g6⟩
 ·omega
 ·obtain⟨v1,_,va,_⟩:=id g1
  obtain⟨v2,_,vb,_⟩:=id g2
  have hs:A0 ⟨false,[md.key],[],[md.page,md.other]⟩=true:=by
   refine Bs.2 ⟨KO.cons.2 ⟨⟨g5,g6⟩,KO.nil,fun _ h=>by cases h⟩,rfl,fun c hc=>?_⟩;rcases Adu.1 hc with rfl|hc
   ·exact Cl hG va.liv
   ·rw[Adq.1 hc];exact Cl hG vb.liv
  have hr:Bm ⟨false,[md.key],[],[md.page,md.other]⟩=true:=by
   simp only[Bm,hs,Agg,decide_eq_true_eq];rw[size_inner];simp only[Cz,Adm,Aem];omega
  rcases MN hG hr with ⟨h1,h2,h3⟩|h1
  ·have hfr:=h2.frame hlv hnd (fun p _ q=>by cases q)
   have hsm:=h2.same hlv (fun p _ q=>by cases q)
   refine .inl ⟨h1,_,hfr,⟨_,_,h3,by simp,rfl,?_⟩,h3⟩
   rw[decide_eq_false (Aeh _)]
   exact .mki rfl (Kd.cons.2 ⟨l1,l2,P1,P2,rfl,rfl,g1.stay (hsm.sub (fun p hp=>Adw _ hp)),g3,g4,Kd.one.2 (g2.stay (hsm.sub (fun p hp=>Ady _ hp)))⟩)
  ·exact .inr h1
def ZL(h:Tok t l P){key v}(hk:1≤key.length∧key.length≤64)(hv:v.length≤16384):
  ((CU t key v).2=0∧∃P',Tok (CU t key v).1 (Ez l key v) P'∧Mv t.s (CU t key v).1.s P P' (AQ v.length+2*t.height+1))∨((CU t key v).2=190∧t.s.free<AQ v.length+2*t.height+1):=by
 unfold CU
 dsimp only
 have hc:=AaH h.gd hv
 generalize BZ t.s v=c at hc⊢
 rcases hc with ⟨c1,Pc,c2,c3⟩|⟨c1,c2⟩
 ·rw[if_neg (by rw[c1];decide)]
  have hsmc:=c2.same h.live (fun p _ q=>by cases q)
  have c4:=c2.frame h.live h.nd (fun p _ q=>by cases q)
  rcases h.tr with ⟨e1,e2,rfl,rfl⟩|⟨x,e1,e2⟩
  ·rw[if_pos e1]
   have hs:A0 ⟨true,[key],[c.2.1],[]⟩=true:=Ck.2 ⟨KO.cons.2 ⟨hk,KO.nil,fun _ h=>by cases h⟩,rfl,fun v hv=>by rw[Adq.1 hv];exact c3.len⟩
   have hr:Bm ⟨true,[key],[c.2.1],[]⟩=true:=by
    simp only[Bm,hs,Agg,decide_eq_true_eq];rw[size_leaf (ks:=[key]) (vs:=[c.2.1]) rfl];have:=c3.len;simp only[Cz,Adm,Aem];omega
   have hp:=MN c2.gd hr
   generalize Br c.1 (-1) ⟨true,[key],[c.2.1],[]⟩=k at hp⊢
   rcases hp with ⟨p1,p2,p3⟩|⟨p1,p2⟩
   ·have hlv:=c3.live
    have hnd:=c2.nd
    have p4:=p2.frame hlv hnd (fun p _ q=>by cases q)
    have hsm:=p2.same hlv (fun p _ q=>by cases q)
    have hM:Mv t.s k.1 [] (k.2.1::Pc) (AQ v.length+1):=c2.trans p4
    refine .inl ⟨p1,k.2.1::Pc,⟨p2.gd,hM.nd,rfl,.inr ⟨0,rfl,⟨_,Pc,p3,by simp,rfl,?_⟩⟩⟩,by rw[e1];exact hM.mono (by omega)⟩
    rw[decide_eq_true rfl]
    exact .mkl rfl (Lf.one (c3.stay hsm))
   ·exact .inr ⟨p1,by have:=c2.fr;omega⟩
  ·rw[if_neg (by omega)]
   have hnd:(P++Pc).Nodup:=(List.perm_append_comm.nodup_iff).1 c4.nd
   have hi:=Ww (v:=v) hk x c2.gd (e2.stay hsmc) hnd c3
   rw[e1]
   generalize Cb c.1 t.root key c.2.1 (x+1)=u at hi⊢
   rcases hi with ⟨i1,i2,P',i3,i4⟩|⟨i1,i2⟩
   ·rw[if_neg (by rw[i1];decide)]
    have hM:Mv t.s u.1 P P' (AQ v.length+2*(x+1)):=(c4.perm (A':=P) (by simp) Adl).trans i3
    have hct:t.count+(if u.2.2.1=true then 1 else 0)=(Ez l key v).length:=by
     rw[S0,h.ct,i2];cases isK l key<;>simp
    unfold CP
    by_cases ho:u.2.1.other<0
    ·rw[if_pos ho]
     exact .inl ⟨rfl,P',⟨i3.gd,hM.nd,hct,.inr ⟨x,rfl,i4.tr ho (Adi _)⟩⟩,hM.mono (by omega)⟩
    ·rw[if_neg ho]
     have i4':Out u.1 x 0 u.2.1 (Ez l key v) P':=by
      rcases i4 with ⟨q,_⟩|q
      ·exact absurd q ho
      ·exact .inr q
     have hr:=NL i3.gd (by omega) i4' hM.nd
     dsimp only
     generalize Br u.1 (-1) ⟨false,[u.2.1.key],[],[u.2.1.page,u.2.1.other]⟩=r at hr⊢
     rcases hr with ⟨r1,P2,r2,r3,r4⟩|⟨r1,r2⟩
     ·exact .inl ⟨r1,P2,⟨r2.gd,r2.nd,hct,.inr ⟨x+1,rfl,r3⟩⟩,(hM.trans r2).mono (by omega)⟩
     ·exact .inr ⟨r1,by have:=hM.fr;omega⟩
   ·rw[if_pos (by rw[i1];decide)]
    exact .inr ⟨i1,by have:=c2.fr;omega⟩
 ·rw[if_pos (by rw[c1];decide)]
  exact .inr ⟨c1,by omega⟩
def Q6(hG:Pgr.Good t.s){h:Nat}{n:Az}{Q:List Int}(e:t.height=h+1)(hat:At t.s t.root n)(hn:Nd t.s (Tr t.s h) (decide (h=0)) n l Q)(hnd:(t.root::Q).Nodup)(hc:t.count=l.length):
  (CH t).2=0∧∃P',Tok (CH t).1 l P'∧Mv t.s (CH t).1.s (t.root::Q) P' 0:=by
 unfold CH
 rw[hat.read]
 dsimp only
 have hlv:∀p∈t.root::Q,A4 t.s p:=fun p hp=>(Adu.1 hp).elim (fun e=>e▸hat.liv) (hn.live p)
 by_cases hk:n.keys=[]
 ·rw[if_neg (by simp[hk])]
  obtain⟨q1,q2⟩:=Afo.1 hnd
  obtain⟨d1,d2⟩:=FI hG hat.liv
  rw[if_neg (by rw[d1];decide)]
  have hx:∀p∈Q,p∉ [t.root]:=fun p hp q=>q1 (Adq.1 q▸hp)
  have d3:=d2.frame hn.live q2 hx
  have hsm:=d2.same hn.live hx
  by_cases h0:h=0
  ·rw[decide_eq_true h0] at hn
   obtain⟨n1,n2⟩:=hn.leaf
   rw[hk] at n2
   have hl0:=n2.len
   have hvl:=Adn hl0.1
   rw[hvl,Lf] at n2
   obtain⟨rfl,rfl⟩:=n2
   refine⟨rfl,[],⟨d2.gd,List.nodup_nil,hc,.inl ⟨?_,?_,rfl,rfl⟩⟩,d3⟩
   ·show t.height - 1=0;omega
   ·show(if n.leaf=true then(-1:Int) else _)= -1;rw[if_pos n1]
  ·rw[decide_eq_false h0] at hn
   obtain⟨n1,n2⟩:=hn.inner
   rw[hk] at n2
   have hl0:=n2.len
   obtain⟨c,ec⟩:∃c,n.kids=[c]:=by
    cases hq:n.kids with
    |nil=>rw[hq] at hl0;cases hl0
    |cons c r=>
     rw[hq] at hl0
     exact⟨c,by rw[Adn (show r.length=0 by simpa using hl0)]⟩
   rw[ec] at n2
   have n3:=Kd.one.1 n2
   obtain⟨h',rfl⟩:∃h',h=h'+1:=⟨h - 1,by omega⟩
   refine⟨rfl,Q,⟨d2.gd,q2,hc,.inr ⟨h',?_,?_⟩⟩,d3⟩
   ·show t.height - 1=h'+1;omega
   ·show Tr (t.s.drop t.root).1 (h'+1) (if n.leaf=true then(-1:Int) else n.kids.getD 0 0) l Q
    rw[if_neg (by rw[n1];decide),ec]
    exact n3.stay hsm
 ·rw[if_pos (by simp[hk])]
  exact⟨rfl,_,⟨hG,hnd,hc,.inr ⟨h,e,⟨n,Q,hat,hk,rfl,hn⟩⟩⟩,Mv.id hG hlv hnd⟩
def Yn(h:Tok t l P)(key:List UInt8):
  ((BF t key).2.2=0∧(BF t key).2.1=isK l key∧∃P',Tok (BF t key).1 (B7 l key).1 P'∧Mv t.s (BF t key).1.s P P' (4*t.height+1))∨((BF t key).2.2=190∧t.s.free<4*t.height+1):=by
 unfold BF
 rcases h.tr with ⟨e1,e2,rfl,rfl⟩|⟨x,e1,e2⟩
 ·rw[if_pos e1]
  exact .inl ⟨rfl,rfl,[],h,(Mv.refl h.gd).mono (Aej _)⟩
 ·rw[if_neg (by omega)]
  dsimp only
  have hr:=JD (key:=key) x h.gd e2 h.nd
  rw[e1]
  generalize BK t.s t.root key (x+1)=u at hr⊢
  rcases hr with ⟨r1,r2,⟨r3,r4⟩|⟨r3,P',r4,r5⟩⟩|⟨r1,r2⟩
  ·rw[if_pos (.inr (by rw[r2,r3]))]
   refine .inl ⟨r1,r3.symm,P,?_,?_⟩
   ·have e:(B7 l key).1=l:=by unfold B7;rw[if_neg (by rw[r3];decide)]
    rw[e]
    show Tok ⟨u.1,t.root,x+1,t.count⟩ l P
    rw[r4,←e1];exact h
   ·show Mv t.s u.1 P P _
    rw[r4];exact h.id.mono (Aej _)
  ·rw[if_neg (by rw[r1,r2,r3];simp)]
   have hct:t.count - 1=(B7 l key).1.length:=by
    have:=Tj (l:=l) (key:=key);rw[r3,if_pos rfl] at this;have:=h.ct;omega
   unfold CP
   by_cases ho:u.2.1.other<0
   ·rw[if_pos ho]
    rcases r5 with ⟨_,n,Q,b1,b2,rfl,_,b4⟩|⟨q,_⟩
    ·rw[if_neg (fun q=>q rfl)]
     obtain⟨s1,P2,s2,s3⟩:=Q6 (t:=⟨u.1,u.2.1.page,x+1,t.count - 1⟩) r4.gd (h:=x) rfl b1 b4 r4.nd hct
     exact .inl ⟨s1,r3.symm,P2,s2,(r4.trans s3).mono (by omega)⟩
    ·omega
   ·rw[if_neg ho]
    have hrt:=NL r4.gd (by omega) r5 r4.nd
    dsimp only
    generalize Br u.1 (-1) ⟨false,[u.2.1.key],[],[u.2.1.page,u.2.1.other]⟩=r at hrt⊢
    rcases hrt with ⟨w1,P2,w2,w3,w4⟩|⟨w1,w2⟩
    ·rw[if_neg (by rw[w1];decide)]
     obtain⟨n,Q,b1,b2,b3,b4⟩:=w3
     subst b3
     obtain⟨s1,P3,s2,s3⟩:=Q6 (t:=⟨r.1,r.2.1,x+1+1,t.count - 1⟩) w2.gd (h:=x+1) rfl b1 b4 w2.nd hct
     exact .inl ⟨s1,r3.symm,P3,s2,((r4.trans w2).trans s3).mono (by omega)⟩
    ·rw[if_pos (by rw[w1];decide)]
     exact .inr ⟨w1,by have:=r4.fr;omega⟩
  ·rw[if_pos (.inl (by rw[r1];decide))]
   exact .inr ⟨r1,by omega⟩
def Wm{key}:∀(h:Nat) {s}{k:Int}{l}{P:List Int},Tr s (h+1) k l P→
  EW s key k (h+1)=((Eo l key).1,(Eo l key).2,0)∧∃n,He s key k (h+1)=h+1+n∧n=if isK l key=true then(if 15<(Eo l key).1.length then AQ (Eo l key).1.length else 0) else 0
 |0,s,k,l,P,⟨n,Q,hat,hne,eP,hn⟩=>by
  subst eP;rw[decide_eq_true rfl] at hn;obtain⟨n1,n2⟩:=hn.leaf;have ef:=Dy hat.sound n1;obtain⟨ks,vs,rfl⟩:∃ks vs,n=⟨true,ks,vs,[]⟩:=⟨_,_,ef⟩
  simp only at n2 hne;obtain⟨hko,hvl,hv16⟩:=Ck.1 hat.sound;have hlv:=hat.level (x:=((0+1:Nat):Int)) rfl;have hlz:(AT s k ((0+1:Nat):Int)).2=0:=by rw[hlv]
  have hln:(AT s k ((0+1:Nat):Int)).1=⟨true,ks,vs,[]⟩:=by rw[hlv]
  rcases Hw hko (vs:=vs) key with ⟨a,b,rfl,hf,ha,hb⟩|⟨a,b,rfl,hf,ha,hb⟩
  ·obtain⟨va,c,vb,l1,v0,l2,P1,Pv,P2,rfl,ev,rfl,rfl,g1,g2,g3⟩:=Jq n2;have e0:(va++[c]++vb).getD a.length []=c:=by rw[←ev];exact Dd
   have hl1:=HA g1 ha;have hl2:=Hv g3 hb;have hget:Eo (l1++[(key,v0)]++l2) key=(v0,true):=by rw[Tp hl1 hl2,Zy]
   have hisk:isK (l1++[(key,v0)]++l2) key=true:=by rw[DM hl1 hl2,H8]
   have hg:=U4 hlz hln hf;simp only[e0] at hg;rw[hget,hisk];refine⟨?_,_,?_,rfl⟩
   ·rw[hg.1,g2.val];simp
   ·rw[hg.2,g2.Gs,if_pos rfl]
  ·obtain⟨va,vb,l1,l2,P1,P2,rfl,ev,rfl,rfl,g1,g3⟩:=Jm n2;have hl1:=HA g1 ha;have hl2:=Hv g3 hb;have hisk:isK (l1++l2) key=false:=by
    have:=DM (m:=[]) hl1 hl2;rw[Ie,Aed] at this;exact this
   have hget:Eo (l1++l2) key=([],false):=by unfold Eo;rw[if_neg (by rw[hisk];decide)]
   obtain⟨y1,y2⟩:=UM hlz hln hf;rw[hget,hisk];exact⟨y1,0,y2,rfl⟩
 |h+1,s,k,l,P,⟨n,Q,hat,hne,eP,hn⟩=>by
  subst eP;rw[decide_eq_false (Aeh _)] at hn;obtain⟨n1,n2⟩:=hn.inner;have ef:=C9 hat.sound n1;obtain⟨ks,cs,rfl⟩:∃ks cs,n=⟨false,ks,[],cs⟩:=⟨_,_,ef⟩
  simp only at n2 hne;obtain⟨hko,hcl,hrng⟩:=Bs.1 hat.sound;have hlv:=hat.level (x:=((h+1+1:Nat):Int)) (by show false=_;exact(decide_eq_false (by omega)).symm);have hlz:(AT s k ((h+1+1:Nat):Int)).2=0:=by rw[hlv]
  have hln:(AT s k ((h+1+1:Nat):Int)).1=⟨false,ks,[],cs⟩:=by rw[hlv]
  obtain⟨a,b,rfl,hf,ha,hb⟩:=GP hat.sound key;obtain⟨ca,c,cb,rfl,ec⟩:=F5 cs (i:=a.length) (by rw[hcl];simp;omega);have e0:(ca++[c]++cb).getD a.length 0=c:=by rw[←ec];exact Dd
  have n2':Kd (Tr s (h+1)) (a++[]++b) (ca++[c]++cb) l Q:=by simpa using n2
  obtain⟨l1,m,l2,P1,Pm,P2,rfl,rfl,g1,g2,g3,g4,g5⟩:=n2'.focus (by simpa using hko) ec rfl;have hl1:∀x∈l1,Lt x.1 key:=fun x hx=>by
   obtain⟨p,p1,p2⟩:=g1.below x hx;exact Ho p2 (ha p p1)
  have hl2:∀x∈l2,Lt key x.1:=fun x hx=>by
   obtain⟨p,p1,p2⟩:=g3.MJ x hx;exact Ho (hb p p1) p2
  have hg:=OM hlz hln hf;simp only[e0] at hg;obtain⟨i1,i2,i3,i4⟩:=Wm (key:=key) h g2;rw[Tp hl1 hl2,DM hl1 hl2];exact⟨hg.1.trans i1,i2,by rw[hg.2,i3];omega,i4⟩
def Sy{R:RT}{m:Nat}(hR:∀c l P,R c l P→m≤l.length):∀{ks}{cs:List Int}{l}{P:List Int},Kd R ks cs l P→m*(ks.length+1)≤l.length
 |[],[c],l,P,h=>by simpa using hR c l P h
 |[],[],l,P,h=>h.elim
 |[],_::_::_,l,P,h=>h.elim
 |_::_,[],l,P,h=>h.elim
 |k::ks,c::cs,l,P,h=>by
  obtain⟨l1,l2,P1,P2,rfl,rfl,h1,h2,h3,h4⟩:=Kd.cons.1 h;have a:=hR _ _ _ h1;have b:=Sy hR h4;rw[Adj,Adm,Nat.mul_succ];omega
def Sm:∀(h:Nat) {s}{k:Int}{l}{P:List Int},Tr s (h+1) k l P→2 ^ h≤l.length
 |0,s,k,l,P,ht=>Em.1 ht.ne
 |h+1,s,k,l,P,⟨n,Q,hat,hne,eP,hn⟩=>by
  rw[decide_eq_false (Aeh _)] at hn;have h1:=Sy (m:=2 ^ h) (fun c l P q=>Sm h q) hn.inner.2;have h2:=Em.1 hne;have:2 ^ h*2≤2 ^ h*(n.keys.length+1):=Nat.mul_le_mul_left _ (by omega);rw[Nat.pow_succ];omega
def Tok.high(h:Tok t l P):(l=[]∧t.height=0∧t.root= -1)∨(l≠[]∧1≤t.height∧2 ^ t.height≤2*l.length):=by
 rcases h.tr with ⟨e1,e2,rfl,_⟩|⟨x,e1,e2⟩
 ·exact .inl ⟨rfl,e1,e2⟩
 ·refine .inr ⟨e2.ne,by omega,?_⟩;have:=Sm x e2;rw[e1,Nat.pow_succ];omega
def Tok.get(h:Tok t l P)(key:List UInt8):EW t.s key t.root t.height=((Eo l key).1,(Eo l key).2,0):=by
 rcases h.tr with ⟨e1,e2,rfl,_⟩|⟨x,e1,e2⟩
 ·rw[e1];rfl
 ·rw[e1];exact(Wm x e2).1
end Go.Gk.Tre
end
section
namespace Go.Gk.Tre
open Go Go.Gk Go.Gk.Dev Go.Gk.Cch Go.Gk.Pgr Go.Gk.Chn Go.Gk.Node
attribute [local irreducible] gwp gws xwp
variable{f1 f2 f3:FuncId}
def PI(P:Program)(f:FuncId):Prop:=∀{d s dv pv L}{bt:Nat}{Tt}{r h c k:Int}{cs}{n:Az}{hk hv hi}{i:Nat},
 PgT d s dv pv L→DU d cs n hk hv hi→Fit n 400→1≤n.keys.length→n.kids.length=n.keys.length+1→i≤n.keys.length→(∀x∈n.kids, -1≤x∧x≤16384)→ -1≤k→k≤16384→
 Av P f [pZ bt,vZ k,.agg cs.toArray,vZ i] d (hk::hv::hi::tb bt Tt pv r h c::L) (Ret fun v d' L'=>Le d d'∧∃ua uc L2,v=.tuple #[mdV (C1 s k n i).2.1 ua uc,vZ (C1 s k n i).2.2]∧
  AM d' (.slice ua (C1 s k n i).2.1.key.length uc) (C1 s k n i).2.1.key∧MOk (C1 s k n i).2.1∧L'=tb bt Tt pv r h c::L2∧PgT d' (C1 s k n i).1 dv pv L2)
def QZ{s}{k:Int}:Fit (Bk s k).1 300:=by
 unfold Bk;by_cases hl:A4 s k
 ·rw[if_pos hl];show Fit ((Node.Bw (s.bytes k)).getD JW) 300;cases hr:Node.Bw (s.bytes k) with
  |none=>exact⟨by decide,by decide,by decide,fun x hx=>(by cases hx),fun x hx=>(by cases hx)⟩
  |some n=>
   obtain⟨⟨a,b,c,e,g⟩, -⟩:=Mn (OG hr).1
   exact⟨show n.keys.length≤300 by omega,show n.vals.length≤300 by omega,show n.kids.length≤300 by omega,e,g⟩
 ·rw[if_neg hl];exact⟨by decide,by decide,by decide,fun x hx=>(by cases hx),fun x hx=>(by cases hx)⟩
def Yf{a b:Az}{key}(ha:Fit a 300)(hb:Fit b 300)(hk:key.length≤1000):Fit (BE a b key) 601:=by
 obtain⟨a1,a2,a3,a4,a5⟩:=ha;obtain⟨b1,b2,b3,b4,b5⟩:=hb;unfold BE;split
 ·refine⟨by simp;omega,by simp;omega,by simp,fun x hx=>?_,fun x hx=>?_⟩
  ·rcases Adg.1 hx with hx|hx
   ·exact a4 x hx
   ·exact b4 x hx
  ·rcases Adg.1 hx with hx|hx
   ·exact a5 x hx
   ·exact b5 x hx
 ·refine⟨by simp;omega,by simp,by simp;omega,fun x hx=>?_,fun x hx=>by cases hx⟩
  rcases Adg.1 hx with hx|hx
  ·rcases Adg.1 hx with hx|hx
   ·exact a4 x hx
   ·rw[Adq.1 hx];exact hk
  ·exact b4 x hx
def OE(a0 a1 a2 a3 a4 a5:Nat):A5:=⟨137,[(.cell 8 (some 4)),(.tmp 9)],(sR (o1 6 (.box 2)<|o1 8 (.alo (.agg #[(vZ 0),(vZ 0),(.slice none 0 0),(vZ 0)]))<|o1 9 (.mv z0) .done) (.seq (sR (om 15 3<|oj 16 1 6<|ol 17 16<|oL 18 17<|ob 19 .eql 15 18 .done) (.cond 19 (rG (om 20 3<|ob 21 .sub 20 z1<|om 3 21 .done)) .skip)) (sR (om 23 0<|oj 24 3 6<|ol 25 24<|om 26 3<|oI 27 1 25 26<|ol 28 27<|oc 29 a0 [23,28]<|om 22 29<|oe 30 22 0<|oe 31 22 1<|o1 10 (.alo (.agg #[(.bool false),(.slice none 0 0),(.slice none 0 0),(.slice none 0 0)]))<|o0 (.st 4 10 30)<|om 11 31 .done) (.seq (sR (om 32 11<|ob 33 .neq 32 z0 .done) (.cond 33 (sR (o1 34 (.bld [(0,1),(1,1),(2,1),(3,1)] [(vZ 0),(vZ 0),(.slice none 0 0),(vZ 0)] [])<|om 35 11<|o0 (.st 4 8 34)<|om 9 35 .done) .ret) .skip)) (sR (om 37 0<|oj 38 3 6<|ol 39 38<|om 40 3<|ob 41 .add 40 z1<|oI 42 1 39 41<|ol 43 42<|oc 44 a0 [37,43]<|om 36 44<|oe 45 36 0<|oe 46 36 1<|o1 12 (.alo (.agg #[(.bool false),(.slice none 0 0),(.slice none 0 0),(.slice none 0 0)]))<|o0 (.st 4 12 45)<|om 11 46 .done) (.seq (sR (om 47 11<|ob 48 .neq 47 z0 .done) (.cond 48 (sR (o1 49 (.bld [(0,1),(1,1),(2,1),(3,1)] [(vZ 0),(vZ 0),(.slice none 0 0),(vZ 0)] [])<|om 50 11<|o0 (.st 4 8 49)<|om 9 50 .done) .ret) .skip)) (.seq (sR (oj 51 0 10<|ol 52 51<|oj 53 0 12<|ol 54 53<|o1 55 (.eqb true 52 54) .done) (.cond 55 (sR (o1 56 (.bld [(0,1),(1,1),(2,1),(3,1)] [(vZ 0),(vZ 0),(.slice none 0 0),(vZ 0)] [])<|o0 (.st 4 8 56)<|o1 9 (.mv (kZ 200)) .done) .ret) .skip)) (.seq (.reg true (pm 58 0<|p1 59 (.fld 3 6)<|pl 60 59<|pm 61 3<|p1 62 (.idx 1 60 61)<|pl 63 62<|p1 64 (.ld (some 4) 10)<|p1 65 (.ld (some 4) 12)<|p1 66 (.fld 1 6)<|pl 67 66<|pm 68 3<|p1 69 (.idx 1 67 68)<|pl 70 69 (.par (o1 13 (.alo (.agg #[(vZ 0),(vZ 0),(.slice none 0 0),(vZ 0)])) .done) (oc 71 a1 [64,65,70] (oc 72 a2 [58,63,71] (pm 57 72 (p1 73 (.ext 57 0) (p1 74 (.ext 57 1) .done))))) (o0 (.st 4 13 73) (pm 11 74 .done))))) (.seq (sR (om 75 11<|ob 76 .neq 75 z0 .done) (.cond 76 (sR (o1 77 (.bld [(0,1),(1,1),(2,1),(3,1)] [(vZ 0),(vZ 0),(.slice none 0 0),(vZ 0)] [])<|om 78 11<|o0 (.st 4 8 77)<|om 9 78 .done) .ret) .skip)) (.seq (.seq (.reg true (pm 79 0<|p1 80 (.nilc 79)<|p1 81 (.fld 0 80)<|pl 82 81<|p1 83 (.fld 3 6)<|pl 84 83<|pm 85 3<|p1 86 (.bin .add 85 z1)<|p1 87 (.idx 1 84 86)<|pl 88 87<|oc 89 a3 [82,88] (.bar (pm 14 89 .done)))) (sR (om 90 14<|ob 91 .neq 90 z0 .done) (.cond 91 (sR (o1 92 (.bld [(0,1),(1,1),(2,1),(3,1)] [(vZ 0),(vZ 0),(.slice none 0 0),(vZ 0)] [])<|om 93 14<|o0 (.st 4 8 92)<|om 9 93 .done) .ret) .skip))) (sR (oj 94 3 6<|ol 95 94<|om 96 3<|oj 97 0 13<|ol 98 97<|oI 99 1 95 96<|o0 (.st 1 99 98) .done) (.seq (sR (oj 100 1 13<|ol 101 100<|ob 102 .geq 101 z0 .done) (.cond 102 (.reg true (p1 103 (.fld 1 6)<|pl 104 103<|pm 105 3<|p1 106 (.fld 3 6)<|pl 107 106<|pm 108 3<|p1 109 (.bin .add 108 z1)<|p1 110 (.fld 2 13)<|pl 111 110<|p1 112 (.fld 1 13)<|pl 113 112<|p1 114 (.idx 1 104 105)<|o0 (.st 1 114 111)<|p1 115 (.idx 1 107 109)<|o0 (.st 1 115 113) .done)) (.reg true (p1 116 (.fld 1 6)<|pl 117 116<|pm 118 3<|pm 119 3<|p1 120 (.bin .add 119 z1)<|p1 122 (.fld 3 6)<|pl 123 122<|pm 124 3<|p1 125 (.bin .add 124 z1)<|pm 126 3<|p1 127 (.bin .add 126 z2)<|oc 121 a4 [117,118,120]<|p1 129 (.fld 1 6)<|oc 128 a5 [123,125,127] (.bar (o0 (.st 1 129 121) (p1 130 (.fld 3 6) (o0 (.st 1 130 128) .done)))))))) (sR (om 131 0<|om 132 1<|o1 133 (.ld (some 4) 6)<|oc 134 a2 [131,132,133]<|oe 135 134 0<|oe 136 134 1<|o0 (.st 4 8 135)<|om 9 136 .done) .ret)))))))))))))⟩
set_option maxRecDepth 4000 in
set_option maxHeartbeats 8000000 in
def Yv{P f f4 f5 f6}(hd:Kc P f=some (OE f1 f2 f3 f4 f5 f6))(h1:Jn P f1)(h2:TJ P f2)(h3:H3 P f3)(h4:Pgr.GZ P f4)(h5:Ky RBs P f5)(h6:Ky Bb P f6):PI P f:=by
 intro d s dv pv L bt Tt r h c k cs n hk hv hi i0 hp hn hfit hk1 hkk hi0 hkb hpg0 hpg1;obtain⟨bp,rfl⟩:=hp.ptr;have hfk:=hfit.k;obtain⟨kv,vv,iv,rfl,r1,r2,r3⟩:=hn;obtain⟨ya,yc,rfl⟩:=r2.val;obtain⟨bk,Tk,lk,ck,rfl,rfl,hlk,hallk,hsetk⟩:=Ap.all (R:=RBs) Fa r1 (by omega);obtain⟨bi,Ti,li,ci,rfl,rfl,hli,halli,hseti⟩:=Ap.all (R:=Bb) B2 r3 (by omega);refine AF hd (Ada rfl) ?_;show gwp P _ _ _ _ _;apply Af;apply AB;refine Cx rfl (fun b6 T6=>?_);refine B0 (fun b8 T8=>?_);apply Ab;rfl;apply Aa;obtain⟨i,hii⟩:∃i,i=if i0=n.keys.length then i0 - 1 else i0:=⟨_,rfl⟩
 have hil:i<n.keys.length:=by rw[hii];split<;>omega
 refine Gc (fun ρ d' L'=>BI ρ [(0,pZ bt),(1,vZ k),(3,vZ i),(6,pZ b6),(8,pZ b8),(9,vZ 0)]∧d=d'∧
  L'=bx b8 T8 [vZ 0,vZ 0,.slice none 0 0,vZ 0]::bx b6 T6 [.bool n.leaf,.slice (some ⟨bk,0,none⟩) n.keys.length ck,.slice ya n.vals.length yc,.slice (some ⟨bi,0,none⟩) n.kids.length ci]::bx bk Tk lk::hv::bx bi Ti li::tb bt Tt (pZ bp) r h c::L) ?_ ?_
 ·by_cases e:i0=n.keys.length
  ·rw[if_pos e] at hii;(refine Ad<|Ab rfl<|Ai rfl<|Ag rfl (Aj 1 rfl rfl)<|AK rfl<|AO rfl rfl<|Aa<|Ax rfl (by omega)<|AB<|Ab rfl<|C6 rfl rfl (by omega) (by omega)<|Ab rfl<|Aa ?_);exact⟨⟨rfl,rfl,congrArg (Value.int .i64) (by omega),rfl,rfl,rfl,trivial⟩,rfl,rfl⟩
  ·rw[if_neg e] at hii;subst hii;(refine Ad<|Ab rfl<|Ai rfl<|Ag rfl (Aj 1 rfl rfl)<|AK rfl<|AO rfl rfl<|Aa<|Ar rfl (by omega)<|Ak ?_);exact⟨⟨rfl,rfl,rfl,rfl,rfl,rfl,trivial⟩,rfl,rfl⟩
 rintro ρ d' L' ⟨hsl,hdd,hLL⟩;subst hdd;subst hLL;refine Dw _ hsl ?_;have hg0:n.kids.getD i 0=n.kids[i]:=by rw[Adh,Ade (by omega)];rfl
 have hg1:n.kids.getD (i+1) 0=n.kids[i+1]:=by rw[Adh,Ade (by omega)];rfl
 have hgk:n.keys.getD i []=n.keys[i]:=by rw[Adh,Ade hil];rfl
 have hM:=J0 (s:=s) (k:=k) (show n.keys.length≠0 by omega) hii rfl rfl;rw[hg0,hg1,hgk] at hM;have hb0:=hkb _ (Aec (show i<n.kids.length by omega));obtain⟨u0,c0,hq0,hq1,hq2⟩:=halli i (by omega);cases hq0;obtain⟨u1,c1,hq3,hq4,hq5⟩:=halli (i+1) (by omega);cases hq3;obtain⟨uk,c2,uk',hq6,hkey⟩:=hallk i hil;cases hq6;obtain⟨tc0,hpx⟩:=hp;(refine Ad<|Am rfl<|Ai rfl<|Ag rfl (Aj 1 rfl rfl)<|Ab rfl<|Bz _ rfl rfl rfl (by omega)<|Ag rfl (Aj 4 rfl (by assumption)) ?_);refine A7 [_,_,_,_,_] (h1 (k:=n.kids[i]) hpx) rfl rfl (fun v d2 L2 hl2 ⟨_,ca,ha1,ha2,ha3,L3,tc1,e1,e2,hna,hp2,htc⟩=>?_);subst e1;subst e2;rw[show Bk {s with tc:=tc0} n.kids[i]=Bk s n.kids[i] from rfl] at hna⊢;have hp2:Pg d2 {s with tc:=tc1} dv (pZ bp) L3:=hp2;obtain⟨d3,hl3,v3,na⟩:=FK hna;have hfa:Fit (Bk s n.kids[i]).1 300:=QZ;refine B9 _ _ (Vs.out [_,_,_,_,_] _ (Aeq _) v3) ?_;generalize Bk s n.kids[i]=A at hM na hfa;obtain⟨an,ae⟩:=A;simp only at na hfa hM⊢;obtain⟨aka,akc,ava,avc,aia,aic,rfl⟩:=CG.four na;(refine AU rfl<|Ao rfl rfl<|Ao rfl rfl<|B0 (fun _ _=>?_));rename_i b10 T10;refine Bn 0 rfl rfl rfl rfl (Adi _) rfl ?_;by_cases hae:ae=0
 ·rw[if_neg (fun q=>q hae)] at hM;subst hae;(refine Ab rfl<|Aa<|Af<|Ad<|Ab rfl<|AN rfl rfl<|Aa<|Ar rfl (by omega)<|Ak<|Ad<|Am rfl<|Ai rfl<|Ag rfl (Aj 2 rfl rfl)<|Ab rfl<|AL rfl rfl (by omega) (by omega) ?_);refine Bz (i+1) rfl rfl (show((i:Int)+1)=((i+1:Nat):Int) by omega) (by omega) ?_;(apply Ag;rfl;exact Aj 5 rfl (by assumption));refine A7 [_,_,_,_,_,_] (h1 (k:=n.kids[i+1]) (hp2.mono hl3)) rfl rfl (fun v d4 L4 hl4 ⟨_,cb,hb1,hb2,hb3,L5,tc2,e3,e4,hnb,hp4,htc4⟩=>?_);subst e3;subst e4;rw[show Bk {s with tc:=tc1} n.kids[i+1]=Bk s n.kids[i+1] from rfl] at hnb⊢;have hp4:PgT d4 s dv (pZ bp) L5:=⟨tc2,hp4⟩
  obtain⟨d5,hl5,v5,nb⟩:=FK hnb;have hfb:Fit (Bk s n.kids[i+1]).1 300:=QZ;refine B9 _ _ (Vs.out [_,_,_,_,_,_] _ (Aeq _) v5) ?_;generalize Bk s n.kids[i+1]=B at hM nb hfb;obtain⟨bn,be⟩:=B;simp only at nb hfb hM⊢;obtain⟨bka,bkc,bva,bvc,bia,bic,rfl⟩:=CG.four nb;(refine AU rfl<|Ao rfl rfl<|Ao rfl rfl<|B0 (fun _ _=>?_));rename_i b12 T12;refine Bn 0 rfl rfl rfl rfl (Adi _) rfl ?_;by_cases hbe:be=0
  ·rw[if_neg (fun q=>q hbe)] at hM;subst hbe;have hle5:=((hl2.trans hl3).trans hl4).trans hl5;have na5:=na.mono (hl4.trans hl5);have hkey5:=RSl.mono (R:=AP) A3 hkey hle5;(refine Ab rfl<|Aa<|Af<|Ad<|Ab rfl<|AN rfl rfl<|Aa<|Ar rfl (by omega)<|Ak<|Af<|Ad<|Ai rfl<|Ag rfl (Aj 1 rfl rfl)<|Ai rfl<|Ag rfl (Aj 0 rfl rfl)<|IS rfl rfl<|Aa ?_);by_cases hlf:an.leaf=bn.leaf
   ·rw[if_neg (fun q=>q hlf)] at hM;refine AS (congrArg Value.bool (show(true ^^(an.leaf==bn.leaf))=false by rw[hlf];simp)) ?_;apply Ak;apply Af;refine Bv [_,_,_,_,_,_,_] (tb bt Tt (pZ bp) r h c::L5) rfl ?_;(refine Am rfl<|Ai rfl<|Ag rfl (Aj 3 rfl rfl)<|Ab rfl<|Bz _ rfl rfl rfl (by omega)<|Ag rfl (Aj 6 rfl (by assumption))<|Bh 1 rfl rfl rfl<|Bh 0 rfl rfl rfl<|Ai rfl<|Ag rfl (Aj 3 rfl rfl)<|Ab rfl<|Bz _ rfl rfl rfl (by omega)<|Ag rfl (Aj 4 rfl (by assumption)) ?_);obtain⟨xa,xc,rfl⟩:=hkey.val;have hkl:=hfit.kl _ (Aec hil);have hjf:=Yf (key:=n.keys[i]) hfa hfb hkl;refine GK (α:=Nat×TypeId) (β:=Option Addr×Nat×List Ac) [(0,pZ bt),(1,vZ k),(3,vZ i),(6,pZ b6),(8,pZ b8)]
     (fun x=>[(13,.pointer (some ⟨x.1,0,none⟩))]) (fun x d L=>L=[bx x.1 x.2 [vZ 0,vZ 0,.slice none 0 0,vZ 0]])
     (fun y=>[(73,mdV (AW s n.kids[i] (BE an bn n.keys[i])).2.1 y.1 y.2.1),(74,vZ (AW s n.kids[i] (BE an bn n.keys[i])).2.2)])
     (fun y d' M=>AM d' (.slice y.1 (AW s n.kids[i] (BE an bn n.keys[i])).2.1.key.length y.2.1) (AW s n.kids[i] (BE an bn n.keys[i])).2.1.key∧PgT d' (AW s n.kids[i] (BE an bn n.keys[i])).1 dv (pZ bp) y.2.2∧M=tb bt Tt (pZ bp) r h c::y.2.2) [] _ rfl
     (fun x d d' M hl h=>h) (fun y d d' M hl h=>⟨RSl.mono (R:=AP) A3 h.1 hl,h.2.1.mono hl,h.2.2⟩) (fun x=>rfl) (fun y=>rfl) rfl ⟨rfl,rfl,rfl,rfl,rfl,trivial⟩ ?_ ?_ ?_
    ·refine B0 (fun b13 T13=>?_);(apply A9);exact⟨_,rfl,(b13,T13),⟨rfl,trivial⟩,rfl⟩
    ·have hA:=hfa.k;have hA2:=hfa.v;have hA3:=hfa.i;have hB:=hfb.k;have hB2:=hfb.v;have hB3:=hfb.i;refine Bl rfl (h2 na5 nb hkey5 (by omega) (by omega) (by omega)) (fun v d6 L6 hl6 ⟨e5,cj,e6,nj⟩=>?_);subst e5;subst e6;refine A7 [] (h3 (k:=n.kids[i]) ((hp4.mono hl5).mono hl6) nj (hjf.small (by omega))) rfl rfl (fun v d7 L7 hl7 ⟨_,ua,uc,L8,e7,hk7,e8,hp8⟩=>?_);subst e7;subst e8;(refine AU rfl<|Ao rfl rfl<|Ao rfl rfl<|A9 ?_);exact⟨_,rfl,(ua,uc,L8),⟨rfl,rfl,trivial⟩,hk7,hp8,rfl⟩
    rintro⟨b13,T13⟩ ⟨ua,uc,L8⟩ ρ2 d6 M1 M2 hl6 hM1 ⟨hk6,hp6,hM2⟩;subst hM1;subst hM2;simp only at hk6 hp6⊢;have hmw:=Hc hp4.Fm (k:=n.kids[i]) (n:=BE an bn n.keys[i]) hb0.1 hb0.2 hjf.kl;generalize AW s n.kids[i] (BE an bn n.keys[i])=W at hM hk6 hp6 hmw;have hm1:=hmw.p0;have hm2:=hmw.p1;have hm3:=hmw.o0;have hm4:=hmw.o1;have hm5:=hmw.k;refine Bn 0 rfl rfl rfl rfl (Adi _) rfl ?_;by_cases hwe:W.2.2=0
    ·rw[if_neg (fun q=>q hwe)] at hM;(refine Ab rfl<|A9<|Af<|Ad<|Ab rfl<|AN rfl rfl<|Aa<|Ar rfl (by omega)<|Ak<|Af<|Af ?_);refine Bv [_,_,_,_,_,_,_,_,_] L8 rfl ?_;(refine Am rfl<|Au rfl<|Ai rfl<|Ag rfl (Aj 8 rfl rfl)<|Ai rfl<|Ag rfl (Aj 3 rfl rfl)<|Ab rfl<|AL rfl rfl (by omega) (by omega) ?_);refine Bz (i+1) rfl rfl (show((i:Int)+1)=((i+1:Nat):Int) by omega) (by omega) ?_;(apply Ag;rfl;exact Aj 6 rfl (by assumption));refine D4 (Vt h4 hp6 (k:=n.kids[i+1])) rfl (fun v d7 L9 hl7 ⟨e9,hp9⟩=>?_);subst e9;by_cases hde:(W.1.drop n.kids[i+1]).2=0
     ·rw[if_neg (fun q=>q hde)] at hM;rw[hde];rw[hM];have hk9:=RSl.mono (R:=AP) A3 hk6 hl7;have hG:=hp9.Fm;have hle7:=(hle5.trans hl6).trans hl7;have hrow1:=hseti d7 i (vZ W.2.1.page) W.2.1.page hle7 (by omega) ⟨rfl,by omega,by omega⟩;(refine Ch<|Ab rfl<|Aa<|Ad<|Ab rfl<|AN rfl rfl<|Aa<|Ar rfl (by omega)<|Ak<|Ad<|Ai rfl<|Ag rfl (Aj 3 rfl rfl)<|Ab rfl<|Ai rfl<|Ag rfl (Aj 7 rfl rfl)<|Bz _ rfl rfl rfl (by omega) ?_);refine A6 6 (patch li (i*1) [vZ W.2.1.page]) rfl rfl rfl rfl (by omega) rfl rfl ?_;apply Aa;generalize hT:(if 0≤W.2.1.other then AW (W.1.drop n.kids[i+1]).1 k {n with keys:=n.keys.set i W.2.1.key,kids:=(n.kids.set i W.2.1.page).set (i+1) W.2.1.other} else AW (W.1.drop n.kids[i+1]).1 k {n with keys:=n.keys.eraseIdx i,kids:=(n.kids.set i W.2.1.page).eraseIdx (i+1)})=T;refine Gc (fun ρ d' L'=>d7=d'∧∃cs' n' hk' hv' hi' x12 x10 x13 Lr,BI ρ [(0,pZ bt),(1,vZ k),(6,pZ b6),(8,pZ b8)]∧DU d' cs' n' hk' hv' hi'∧Fit n' 600∧AW (W.1.drop n.kids[i+1]).1 k n'=T∧Lr.Perm [hk',hv',hi']∧
       L'=x12::x10::bx b8 T8 [vZ 0,vZ 0,.slice none 0 0,vZ 0]::bx b6 T6 cs'::x13::(Lr++tb bt Tt (pZ bp) r h c::L9)) ?_ ?_
      ·by_cases ho:0≤W.2.1.other
       ·rw[if_pos ho] at hT;(refine Ad<|Ai rfl<|Ag rfl (Aj 7 rfl rfl)<|DV rfl rfl<|Aa<|Ax rfl (by omega) ?_);refine Tn [_,_,_,_,_] (bx bk Tk lk::hv::bx bi Ti (patch li (i*1) [vZ W.2.1.page])::tb bt Tt (pZ bp) r h c::L9) (Ahg [_,_,_,_] (Aep (l₁:=[_,_,_]))) ?_;(refine Ai rfl<|Ag rfl (Aj 3 rfl rfl)<|Ab rfl<|Ai rfl<|Ag rfl (Aj 3 rfl rfl)<|Ab rfl<|AL rfl rfl (by omega) (by omega)<|Ai rfl<|Ag rfl (Aj 4 rfl rfl)<|Ai rfl<|Ag rfl (Aj 4 rfl rfl)<|Bz _ rfl rfl rfl (by omega) ?_);have hrowk:=hsetk d7 i (.slice ua W.2.1.key.length uc) W.2.1.key hle7 hil ⟨_,rfl,hk9⟩;refine A6 0 (patch lk (i*1) [.slice ua W.2.1.key.length uc]) rfl rfl rfl rfl (by omega) rfl rfl ?_;skip;refine Bz (i+1) rfl rfl (show((i:Int)+1)=((i+1:Nat):Int) by omega) (by omega) ?_;obtain⟨b',T',l',c',q1,q2,q3, -,hs2⟩:=Ap.all (R:=Bb) B2 hrow1 (by rw[Aen];omega);rw[Aen] at q1;cases q1;obtain⟨rfl,hq⟩:=S6 q2;rw[Aen] at q3;have hrow2:=hs2 d7 (i+1) (vZ W.2.1.other) W.2.1.other (Le.refl _) (by rw[Aen];omega) ⟨rfl,by omega,by omega⟩;rw[←hq] at hrow2 q3;refine A6 2 (patch (patch li (i*1) [vZ W.2.1.page]) ((i+1)*1) [vZ W.2.1.other]) rfl rfl rfl rfl (by omega) rfl rfl ?_;(apply A9);refine⟨rfl,_,{n with keys:=n.keys.set i W.2.1.key,kids:=(n.kids.set i W.2.1.page).set (i+1) W.2.1.other},_,hv,_,_,_,_,[_,_,_],⟨rfl,rfl,rfl,rfl,trivial⟩,⟨_,_,_,rfl,hrowk,r2.En hle7,hrow2⟩,⟨?_,?_,?_,fun y hy=>?_,hfit.vl⟩,hT,Aeq _,rfl⟩
        ·show(n.keys.set i W.2.1.key).length≤600;rw[Aen];omega
        ·have:=hfit.v;show n.vals.length≤600;omega
        ·show((n.kids.set i W.2.1.page).set (i+1) W.2.1.other).length≤600;rw[Aen,Aen];omega
        ·rcases PH hy with rfl|hy
         ·exact hm5
         ·exact hfit.kl y hy
       ·rw[if_neg ho] at hT;(refine Ad<|Ai rfl<|Ag rfl (Aj 7 rfl rfl)<|DV rfl rfl<|Aa<|Ar rfl (by omega) ?_);refine Tn [_,_,_,_,_] (bx bk Tk lk::hv::bx bi Ti (patch li (i*1) [vZ W.2.1.page])::tb bt Tt (pZ bp) r h c::L9) (Ahg [_,_,_,_] (Aep (l₁:=[_,_,_]))) ?_;(refine Ai rfl<|Ag rfl (Aj 3 rfl rfl)<|Ab rfl<|Ab rfl<|AL rfl rfl (by omega) (by omega)<|Ai rfl<|Ag rfl (Aj 3 rfl rfl)<|Ab rfl<|AL rfl rfl (by omega) (by omega)<|Ab rfl<|AL rfl rfl (by omega) (by omega) ?_);refine DN (A:=[_]) rfl rfl (h5 (r1.En hle7) hil rfl (by omega) FL) (fun v da La hla ⟨ea,h121,eb,hg121⟩=>?_);subst ea;subst eb;obtain⟨xa',xc',rfl⟩:=hg121.val;(apply Ai;rfl);refine Dh (A:=[bx bi Ti (patch li (i*1) [vZ W.2.1.page])]) (h6 (i:=i+1) (j:=((i:Int)+2)) (hrow1) (by rw[Aen];omega) (by omega) (by rw[Aen];omega) CX) (Aep (l₁:=[_,_])) rfl (fun v db Lb hlb ⟨ec,h128,ed,hg128⟩=>?_);subst ec;subst ed;obtain⟨za,zc,rfl⟩:=hg128.val;refine⟨_,_,Vs.refl _ _,?_⟩
        apply Ch;refine A6 3 [.bool n.leaf,.slice xa' (n.keys.eraseIdx i).length xc',.slice ya n.vals.length yc,.slice (some ⟨bi,0,none⟩) n.kids.length ci] rfl rfl rfl rfl (Ada rfl) rfl rfl ?_;(apply Ai;rfl);refine A6 3 [.bool n.leaf,.slice xa' (n.keys.eraseIdx i).length xc',.slice ya n.vals.length yc,.slice za ((n.kids.set i W.2.1.page).eraseIdx (i+1)).length zc] rfl rfl rfl rfl (Ada rfl) rfl rfl ?_;(apply Aa);refine⟨rfl,_,{n with keys:=n.keys.eraseIdx i,kids:=(n.kids.set i W.2.1.page).eraseIdx (i+1)},h121,hv,h128,_,_,_,[_,_,_],⟨rfl,rfl,rfl,rfl,trivial⟩,⟨_,_,_,rfl,hg121,r2.En hle7,hg128⟩,⟨?_,?_,?_,fun y hy=>?_,hfit.vl⟩,hT,Adl (l₁:=[_]) (l₂:=[_,_]),rfl⟩
        ·show(n.keys.eraseIdx i).length≤600;have:=(Ahj n.keys i).length_le;omega
        ·have:=hfit.v;show n.vals.length≤600;omega
        ·show((n.kids.set i W.2.1.page).eraseIdx (i+1)).length≤600;have:=(Ahj (n.kids.set i W.2.1.page) (i+1)).length_le;rw[Aen] at this;omega
        ·exact hfit.kl y (KU hy)
      ·rintro ρ3 d' L' ⟨hdd,cs',n',hk',hv',hi',x12,x10,x13,Lr,hsl,hn',hfit',hT',hpm,hLL⟩;subst hdd;subst hLL;subst hT';obtain⟨ka',kc',va',vc',ia',ic',rfl⟩:=hn'.cells;refine Dw _ hsl ?_;obtain⟨d8,hl8,v8,hn8⟩:=FK hn';have hmo:=Hc hG (n:=n') hpg0 hpg1 hfit'.kl;(refine Ad<|Am rfl<|Ab rfl<|Bh 3 rfl rfl rfl ?_);refine B9 _ _ (Vs.out [_,_,_,_,_] _ hpm v8) ?_;refine A7 [_,_,_,_,_] (h3 (k:=k) (hp9.mono hl8) hn8 (hfit'.small (by omega))) rfl rfl (fun v d9 La hl9 ⟨_,wa,wc,Lb,ea,hka,eb,hpb⟩=>?_);subst ea;subst eb;(refine Ao rfl rfl<|Ao rfl rfl ?_);refine Bn 2 rfl rfl rfl rfl (Adi _) rfl ?_;(refine Ab rfl<|Aa<|An ?_);exact Bd [mdV (AW (W.1.drop n.kids[i+1]).1 k n').2.1 wa wc,vZ (AW (W.1.drop n.kids[i+1]).1 k n').2.2] ⟨AV 2 rfl rfl rfl,As rfl,trivial⟩ (d':=d9) (L':=tb bt Tt (pZ bp) r h c::Lb) (Vs.drop (.cons _ (.cons _ (.cons _ (.cons _ (.cons _ (Adb _))))))) ⟨(((hle5.trans hl6).trans hl7).trans hl8).trans hl9,wa,wc,Lb,rfl,hka,hmo,rfl,hpb⟩
     ·rw[if_pos hde] at hM;rw[hM];(refine Ch<|Ab rfl<|Aa<|Ad<|Ab rfl<|AN rfl rfl<|Aa<|Ax rfl (by omega)<|Ad<|BR rfl<|Ab rfl ?_);refine Bn 2 rfl rfl rfl rfl (Adi _) rfl ?_;(refine Ab rfl<|Aa<|An ?_);exact Bd [mdV Co none 0,vZ (W.1.drop n.kids[i+1]).2] ⟨AV 2 rfl rfl rfl,As rfl,trivial⟩ (d':=d7) (L':=tb bt Tt (pZ bp) r h c::L9) (Vs.drop (.cons _ (.cons _ (.cons _ (.cons _ (.cons _ (.cons _ (.cons _ (.cons _ (Adb _)))))))))) ⟨(hle5.trans hl6).trans hl7,none,0,L9,rfl,RSl.nil,Ej,rfl,hp9⟩
    ·rw[if_pos hwe] at hM;rw[hM];(refine Ab rfl<|A9<|Af<|Ad<|Ab rfl<|AN rfl rfl<|Aa<|Ax rfl (by omega)<|Ad<|BR rfl<|Ab rfl ?_);refine Bn 2 rfl rfl rfl rfl (Adi _) rfl ?_;(refine Ab rfl<|Aa<|An ?_);exact Bd [mdV Co none 0,vZ W.2.2] ⟨AV 2 rfl rfl rfl,As rfl,trivial⟩ (d':=d6) (L':=tb bt Tt (pZ bp) r h c::L8) (Vs.drop (.cons _ (.cons _ (.cons _ (.cons _ (.cons _ (.cons _ (.cons _ (.cons _ (Adb _)))))))))) ⟨hle5.trans hl6,none,0,L8,rfl,RSl.nil,Ej,rfl,hp6⟩
   ·rw[if_pos hlf] at hM;rw[hM];refine Bj (congrArg Value.bool (show(true ^^(an.leaf==bn.leaf))=true by cases hq:an.leaf<;>cases hq':bn.leaf<;>simp_all)) ?_;(refine Ad<|BR rfl ?_);refine Bn 2 rfl rfl rfl rfl (Adi _) rfl ?_;(refine Ab rfl<|Aa<|An ?_);exact Bd [mdV Co none 0,vZ 200] ⟨AV 2 rfl rfl rfl,As rfl,trivial⟩ (d':=d5) (L':=tb bt Tt (pZ bp) r h c::L5) (Vs.drop (.cons _ (.cons _ (.cons _ (.cons _ (.cons _ (.cons _ (.cons _ (Adb _))))))))) ⟨hle5,none,0,L5,rfl,RSl.nil,Ej,rfl,hp4.mono hl5⟩
  ·rw[if_pos hbe] at hM;rw[hM];(refine Ab rfl<|Aa<|Af<|Ad<|Ab rfl<|AN rfl rfl<|Aa<|Ax rfl (by omega)<|Ad<|BR rfl<|Ab rfl ?_);refine Bn 2 rfl rfl rfl rfl (Adi _) rfl ?_;(refine Ab rfl<|Aa<|An ?_);exact Bd [mdV Co none 0,vZ be] ⟨AV 2 rfl rfl rfl,As rfl,trivial⟩ (d':=d5) (L':=tb bt Tt (pZ bp) r h c::L5) (Vs.drop (.cons _ (.cons _ (.cons _ (.cons _ (.cons _ (.cons _ (.cons _ (Adb _))))))))) ⟨((hl2.trans hl3).trans hl4).trans hl5,none,0,L5,rfl,RSl.nil,Ej,rfl,hp4.mono hl5⟩
 ·rw[if_pos hae] at hM;rw[hM];(refine Ab rfl<|Aa<|Af<|Ad<|Ab rfl<|AN rfl rfl<|Aa<|Ax rfl (by omega)<|Ad<|BR rfl<|Ab rfl ?_);refine Bn 1 rfl rfl rfl rfl (Adi _) rfl ?_;(refine Ab rfl<|Aa<|An ?_);exact Bd [mdV Co none 0,vZ ae] ⟨AV 1 rfl rfl rfl,As rfl,trivial⟩ (d':=d3) (L':=tb bt Tt (pZ bp) r h c::L3) (Vs.drop (.cons _ (.cons _ (.cons _ (.cons _ (.cons _ (.cons _ (Adb _)))))))) ⟨hl2.trans hl3,none,0,L3,rfl,RSl.nil,Ej,rfl,⟨tc1,hp2.mono hl3⟩⟩
def Si(P:Program)(f:FuncId):Prop:=∀(x:Nat) {d s dv pv w L}{bt:Nat}{Tt}{r h c k:Int}{key},x≤1000000→PgT d s dv pv L→AM d w key→ -1≤k→k≤16384→(BK s k key (x+1)).2.2.2≠99999→
 Av P f [pZ bt,vZ k,vZ ((x+1:Nat):Int),w] d (tb bt Tt pv r h c::L) (Ret fun v d' L'=>Le d d'∧∃ua uc L2,v=.tuple #[mdV (BK s k key (x+1)).2.1 ua uc,.bool (BK s k key (x+1)).2.2.1,vZ (BK s k key (x+1)).2.2.2]∧
  AM d' (.slice ua (BK s k key (x+1)).2.1.key.length uc) (BK s k key (x+1)).2.1.key∧MOk (BK s k key (x+1)).2.1∧L'=tb bt Tt pv r h c::L2∧PgT d' (BK s k key (x+1)).1 dv pv L2)
def K7(a0 a1 a2 a3 a4 a5 a6 a7:Nat):A5:=⟨139,[(.cell 8 (some 4)),(.tmp 9),(.tmp 10)],(sR (o1 8 (.alo (.agg #[(vZ 0),(vZ 0),(.slice none 0 0),(vZ 0)]))<|o1 9 (.mv (.const (.bool false)))<|o1 10 (.mv z0) .done) (sR (om 24 0<|om 25 1<|om 26 2<|oc 27 a0 [24,25,26]<|om 23 27<|oe 28 23 0<|oe 29 23 1<|o1 11 (.alo (.agg #[(.bool false),(.slice none 0 0),(.slice none 0 0),(.slice none 0 0)]))<|o0 (.st 4 11 28)<|om 12 29 .done) (.seq (sR (om 30 12<|ob 31 .neq 30 z0 .done) (.cond 31 (sR (o1 32 (.bld [(0,1),(1,1),(2,1),(3,1)] [(vZ 0),(vZ 0),(.slice none 0 0),(vZ 0)] [])<|om 33 12<|o0 (.st 4 8 32)<|o1 9 (.mv (.const (.bool false)))<|om 10 33 .done) .ret) .skip)) (sR (o1 35 (.ld (some 4) 11)<|om 36 3<|oc 37 a1 [35,36]<|om 34 37<|oe 38 34 0<|oe 39 34 1<|om 13 38<|om 14 39 .done) (.seq (sR (om 40 2<|ob 41 .eql 40 z1 .done) (.cond 41 (.seq (sR (om 42 14<|o1 43 (.un .not 42) .done) (.cond 43 (sR (om 44 1<|o1 45 (.bld [(0,1),(1,1),(2,1),(3,1)] [(vZ 0),(vZ 0),(.slice none 0 0),(vZ 0)] [(0,44),(1,(kZ (-1))),(3,(kZ 256))])<|o0 (.st 4 8 45)<|o1 9 (.mv (.const (.bool false)))<|o1 10 (.mv z0) .done) .ret) .skip)) (.seq (sR (om 46 0<|oj 47 2 11<|ol 48 47<|om 49 13<|oI 50 1 48 49<|ol 51 50<|oc 52 a2 [46,51]<|om 15 52 .done) (sR (om 53 15<|ob 54 .neq 53 z0 .done) (.cond 54 (sR (o1 55 (.bld [(0,1),(1,1),(2,1),(3,1)] [(vZ 0),(vZ 0),(.slice none 0 0),(vZ 0)] [])<|om 56 15<|o0 (.st 4 8 55)<|o1 9 (.mv (.const (.bool false)))<|om 10 56 .done) .ret) .skip))) (.seq (.reg true (p1 57 (.fld 1 11)<|pl 58 57<|pm 59 13<|pm 60 13<|p1 61 (.bin .add 60 z1)<|p1 63 (.fld 2 11)<|pl 64 63<|pm 65 13<|pm 66 13<|p1 67 (.bin .add 66 z1)<|oc 62 a3 [58,59,61]<|p1 69 (.fld 1 11)<|oc 68 a3 [64,65,67] (.bar (o0 (.st 1 69 62) (p1 70 (.fld 2 11) (o0 (.st 1 70 68) .done)))))) (sR (om 72 0<|om 73 1<|o1 74 (.ld (some 4) 11)<|oc 75 a4 [72,73,74]<|om 71 75<|oe 76 71 0<|oe 77 71 1<|o1 16 (.alo (.agg #[(vZ 0),(vZ 0),(.slice none 0 0),(vZ 0)]))<|o0 (.st 4 16 76)<|om 17 77 .done) (sR (o1 78 (.ld (some 4) 16)<|om 79 17<|o0 (.st 4 8 78)<|o1 9 (.mv (.const (.bool true)))<|om 10 79 .done) .ret))))) .skip)) (sR (om 81 0<|oj 82 3 11<|ol 83 82<|om 84 13<|oI 85 1 83 84<|ol 86 85<|om 87 2<|ob 88 .sub 87 z1<|om 89 3<|oc 90 a5 [81,86,88,89]<|om 80 90<|oe 91 80 0<|oe 92 80 1<|oe 93 80 2<|o1 18 (.alo (.agg #[(vZ 0),(vZ 0),(.slice none 0 0),(vZ 0)]))<|o0 (.st 4 18 91)<|om 19 92<|om 12 93 .done) (.seq (sR (om 94 12<|ob 95 .neq 94 z0<|om 96 95<|gF 97 96 19<|oF 98 96 (.un .not 97)<|o1 99 (.pick 96 (.const (.bool true)) 98) .done) (.cond 99 (sR (om 100 1<|o1 101 (.bld [(0,1),(1,1),(2,1),(3,1)] [(vZ 0),(vZ 0),(.slice none 0 0),(vZ 0)] [(0,100),(1,(kZ (-1))),(3,(kZ 256))])<|om 102 19<|om 103 12<|o0 (.st 4 8 101)<|om 9 102<|om 10 103 .done) .ret) .skip)) (.seq (sR (oj 104 1 18<|ol 105 104<|ob 106 .lss 105 z0<|om 107 106<|oT 108 107 (.fld 3 18)<|oT 109 107 (.ld none 108)<|oT 110 107 (.bin .lss 109 (kZ 80))<|gP 111 107 110 .done) (.cond 111 (sR (oj 112 3 11<|ol 113 112<|om 114 13<|oj 115 0 18<|ol 116 115<|oI 117 1 113 114<|o0 (.st 1 117 116) .done) (sR (om 119 0<|om 120 1<|o1 121 (.ld (some 4) 11)<|om 122 13<|oc 123 a6 [119,120,121,122]<|om 118 123<|oe 124 118 0<|oe 125 118 1<|o1 20 (.alo (.agg #[(vZ 0),(vZ 0),(.slice none 0 0),(vZ 0)]))<|o0 (.st 4 20 124)<|om 21 125 .done) (sR (o1 126 (.ld (some 4) 20)<|om 127 21<|o0 (.st 4 8 126)<|o1 9 (.mv (.const (.bool true)))<|om 10 127 .done) .ret))) .skip)) (sR (om 129 0<|om 130 1<|o1 131 (.ld (some 4) 11)<|om 132 13<|o1 133 (.ld (some 4) 18)<|oc 134 a7 [129,130,131,132,133]<|om 128 134<|oe 135 128 0<|oe 136 128 1<|o1 22 (.alo (.agg #[(vZ 0),(vZ 0),(.slice none 0 0),(vZ 0)]))<|o0 (.st 4 22 135)<|om 12 136 .done) (sR (o1 137 (.ld (some 4) 22)<|om 138 12<|o0 (.st 4 8 137)<|o1 9 (.mv (.const (.bool true)))<|om 10 138 .done) .ret))))))))))⟩
set_option maxRecDepth 4000 in
set_option maxHeartbeats 8000000 in
def Aav{P f f4 f5 f7 f8}(hd:Kc P f=some (K7 f1 f2 f3 f4 f5 f f7 f8))(h1:G5 P f1)(h2:JB P f2 findD)(h3:MZ P f3)(h4:Ky RBs P f4)(h5:H3 P f5)(h7:PI P f7)(h8:JN P f8):Si P f:=by
 intro x;induction x using Nat.strongRecOn with
 |ind x ih=>
 intro d s dv pv w L bt Tt r h c k key hx hp hw hk0 hk1 hnp;obtain⟨bp,rfl⟩:=hp.ptr;have hG:=hp.Fm;obtain⟨tc0,hp⟩:=hp;obtain⟨wa,wc,rfl⟩:=hw.val;refine AF hd (Ada rfl) ?_;show gwp P _ _ _ _ _;apply Af;apply AB;refine B0 (fun b10 T10=>?_);(refine Ae rfl<|Ab rfl<|Aa<|Ad<|Am rfl<|Ab rfl<|Ab rfl ?_);refine A7 [_] (h1 (k:=k) (x:=((x+1:Nat):Int)) hp) rfl rfl (fun v d2 L2 hl ⟨_,cs,hk,hv,hi,L3,tc,e1,e2,hn,hp2,htc⟩=>?_);subst e1;subst e2;have hp2:PgT d2 s dv (pZ bp) L3:=⟨tc,hp2⟩
 rw[show AT {s with tc:=tc0} k ((x+1:Nat):Int)=AT s k ((x+1:Nat):Int) from rfl] at hn⊢;obtain⟨ka,kc,va,vc,ia,ic,rfl⟩:=hn.cells;(refine AU rfl<|Ao rfl rfl<|Ao rfl rfl<|B0 (fun _ _=>?_));rename_i b13 T13;refine Bn 0 rfl rfl rfl rfl (Adi _) rfl ?_;by_cases he:(AT s k ((x+1:Nat):Int)).2=0
 ·obtain⟨hr,hlf⟩:=Hq he;obtain⟨n,hne⟩:∃n,(AT s k ((x+1:Nat):Int)).1=n:=⟨_,rfl⟩
  rw[hne] at hn hr hlf⊢;obtain⟨hfit,hk64⟩:=Mn hr;obtain⟨i,b,hfd⟩:∃i b,findD n key=(i,b):=⟨_,_,rfl⟩
  have hile:i≤n.keys.length:=by have:=NN (n:=n) (key:=key);rw[hfd] at this;exact this
  rw[he];have hw2:=RSl.mono (R:=AP) A3 hw hl;have hlv:n.leaf=true→n.vals.length=n.keys.length:=JO hr;have hli:n.leaf=false→n.kids.length=n.keys.length+1:=HW hr;have hkd:=LH hr;clear hr;have hnk:=hn;obtain⟨kv,vv,iv,q,r1,r2,r3⟩:=hn;cases q;(refine Ab rfl<|Aa<|Af<|Ad<|Ab rfl<|AN rfl rfl<|Aa<|Ar rfl (by omega)<|Ak<|Ad<|Bh 0 rfl rfl rfl<|Al rfl ?_);refine Jy rfl (v:=.tuple #[vZ i,.bool b]) (fun d1 hl1 hk1=>by
   have:=h2 (DU.IT ⟨_,_,_,rfl,r1,r2,r3⟩ hl1 (hk1 _ (by simp)) (hk1 _ (by simp)) (hk1 _ (by simp))) (RSl.mono (R:=AP) A3 hw2 hl1);rw[hfd] at this;exact this) ?_
  (refine AU rfl<|Ao rfl rfl<|Ao rfl rfl<|Ab rfl<|Ae rfl<|Aa ?_);apply Af;apply Af;apply AB;(refine Ab rfl<|AO rfl rfl<|Aa ?_);by_cases hx0:x=0
  ·subst hx0;have hvl:=hlv (by rw[hlf];rfl);clear hlv hli hlf;refine Ax rfl (by omega) ?_;cases b with
   |true=>
    have hilt:i<n.keys.length:=by have:=NV (n:=n) (key:=key) (by rw[hfd]);rw[hfd] at this;exact this
    have hiv:i<n.vals.length:=by omega
    have hI:=MA he hne hfd
    have hgv:n.vals.getD i []=n.vals[i]:=by rw[Adh,Ade hiv];rfl
    rw[hgv] at hI
    obtain⟨b1,T1,l1,c1,cs1,q1,rfl,hcl1,hcs,hle1,⟨u,rfl,hu⟩, -⟩:=Ap.at (by omega) r2 hiv
    cases q1
    have c0:=hcs 0 _ rfl
    have hfk:=hfit.k
    have hfv:=hfit.v
    (refine Af<|Ad<|Ae rfl<|Bx rfl<|Aa<|AS rfl<|Ak<|Af<|Ad<|Am rfl<|Ai rfl<|Ag rfl (Aj 0 rfl rfl)<|Ab rfl<|Bz _ rfl rfl rfl (by omega)<|Ag rfl (Aj 3 rfl (by assumption)) ?_)
    refine A7 [_,_,_,_,_] (h3 hp2 hu) rfl rfl (fun v d3 L4 hl3 ⟨_,e3,L5,e4,hp5⟩=>?_)
    subst e3;subst e4
    by_cases hz:(BP s n.vals[i]).2=0
    ·rw[if_neg (fun q=>q hz)] at hI
     rw[hI,hz]
     clear hnp
     (refine Ab rfl<|Aa<|Ad<|Ab rfl<|AN rfl rfl<|Aa<|Ar rfl (by omega)<|Ak<|Af ?_)
     refine Bv [_,_] (hk::bx b1 T1 l1::hi::tb bt Tt (pZ bp) r h c::L5) rfl ?_
     (refine Ai rfl<|Ag rfl (Aj 0 rfl rfl)<|Ab rfl<|Ab rfl<|AL rfl rfl (by omega) (by omega)<|Ai rfl<|Ag rfl (Aj 0 rfl rfl)<|Ab rfl<|Ab rfl<|AL rfl rfl (by omega) (by omega) ?_)
     refine DN (A:=[_]) rfl rfl (h4 (r1.En hl3) hilt rfl (by omega) FL) (fun v da La hla ⟨ea,h62,eb,hg62⟩=>?_)
     subst ea;subst eb
     obtain⟨xa',xc',rfl⟩:=hg62.val
     (apply Ai;rfl)
     refine Dh (A:=[bx b1 T1 l1]) (h4 (i:=i) (j:=((i:Int)+1)) (r2.En hl3) hiv rfl (by omega) FL) (Aep (l₁:=[_])) rfl (fun v db Lb hlb ⟨ec,h68,ed,hg68⟩=>?_)
     subst ec;subst ed
     obtain⟨za,zc,rfl⟩:=hg68.val
     refine⟨_,_,Vs.refl _ _,?_⟩
     apply Ch
     refine A6 0 [.bool n.leaf,.slice xa' (n.keys.eraseIdx i).length xc',.slice (some ⟨b1,0,none⟩) n.vals.length vc,.slice ia n.kids.length ic] rfl rfl rfl rfl (Ada rfl) rfl rfl ?_
     (apply Ai;rfl)
     refine A6 0 [.bool n.leaf,.slice xa' (n.keys.eraseIdx i).length xc',.slice za (n.vals.eraseIdx i).length zc,.slice ia n.kids.length ic] rfl rfl rfl rfl (Ada rfl) rfl rfl ?_
     (refine Aa<|Ad<|Am rfl<|Ab rfl<|Bh 0 rfl rfl rfl ?_)
     have hn':DU db [.bool n.leaf,.slice xa' (n.keys.eraseIdx i).length xc',.slice za (n.vals.eraseIdx i).length zc,.slice ia n.kids.length ic] {n with keys:=n.keys.eraseIdx i,vals:=n.vals.eraseIdx i} h62 h68 hi:=⟨_,_,_,rfl,hg62,hg68,r3.Hk hl3⟩
     obtain⟨d8,hl8,v8,hn8⟩:=FK hn'
     have hfit':Fit {n with keys:=n.keys.eraseIdx i,vals:=n.vals.eraseIdx i} 600:=by
      have e1:=(Ahj n.keys i).length_le;have e2:=(Ahj n.vals i).length_le;have e3:=hfit.i;exact⟨show(n.keys.eraseIdx i).length≤600 by omega,show(n.vals.eraseIdx i).length≤600 by omega,show n.kids.length≤600 by omega,fun y hy=>hfit.kl y (KU hy),fun y hy=>hfit.vl y (KU hy)⟩
     have hmo:=Hc hp5.Fm (n:={n with keys:=n.keys.eraseIdx i,vals:=n.vals.eraseIdx i}) hk0 hk1 hfit'.kl
     refine B9 _ _ (Vs.out (M:=[_,_,_]) [_,_] _ (Aee _ _ _) v8) ?_
     refine A7 [_,_] (h5 (k:=k) (hp5.mono hl8) hn8 (hfit'.small (by omega))) rfl rfl (fun v d9 Lc hl9 ⟨_,ua,uc,L6,e5,hk5,e6,hp6⟩=>?_)
     subst e5;subst e6
     (refine AU rfl<|Ao rfl rfl<|Ao rfl rfl<|B0 (fun _ _=>?_))
     rename_i b18 T18
     refine Bn 0 rfl rfl rfl rfl (Adi _) rfl ?_
     (refine Ab rfl<|Aa<|Ad<|Bh 0 rfl rfl rfl<|Ab rfl ?_)
     refine Bn 2 rfl rfl rfl rfl (Adi _) rfl ?_
     (refine Ae rfl<|Ab rfl<|Aa<|An ?_)
     exact Bd [mdV (AW (BP s n.vals[i]).1 k {n with keys:=n.keys.eraseIdx i,vals:=n.vals.eraseIdx i}).2.1 ua uc,.bool true,vZ (AW (BP s n.vals[i]).1 k {n with keys:=n.keys.eraseIdx i,vals:=n.vals.eraseIdx i}).2.2] ⟨AV 2 rfl rfl rfl,As rfl,As rfl,trivial⟩ (d':=d9) (L':=tb bt Tt (pZ bp) r h c::L6) (Vs.drop (.cons _ (.cons _ (.cons _ (Adb _))))) ⟨((hl.trans hl3).trans hl8).trans hl9,ua,uc,L6,rfl,hk5,hmo,rfl,hp6⟩
    ·rw[if_pos hz] at hI
     rw[hI]
     clear hnp
     (refine Ab rfl<|Aa<|Ad<|Ab rfl<|AN rfl rfl<|Aa<|Ax rfl (by omega)<|Ad<|BR rfl<|Ab rfl ?_)
     refine Bn 1 rfl rfl rfl rfl (Adi _) rfl ?_
     (refine Ae rfl<|Ab rfl<|Aa<|An ?_)
     exact Bd [mdV Co none 0,.bool false,vZ (BP s n.vals[i]).2] ⟨AV 1 rfl rfl rfl,As rfl,As rfl,trivial⟩ (d':=d3) (L':=tb bt Tt (pZ bp) r h c::L5) (Vs.drop (.cons _ (.cons _ (.cons _ (.cons _ (.cons _ (Adb _))))))) ⟨hl.trans hl3,none,0,L5,rfl,RSl.nil,Ej,rfl,hp5⟩
   |false=>
    have hI:=U2 he hne hfd
    rw[hI]
    clear hnp
    (refine Af<|Ad<|Ae rfl<|Bx rfl<|Aa<|Bj rfl<|Ad<|Ab rfl<|BR rfl ?_)
    refine Bn 1 rfl rfl rfl rfl (Adi _) rfl ?_
    (refine Ae rfl<|Ab rfl<|Aa<|An ?_)
    exact Bd [mdV ⟨k, -1,[],256⟩ none 0,.bool false,vZ 0] ⟨AV 1 rfl rfl rfl,As rfl,As rfl,trivial⟩ (d':=d2) (L':=tb bt Tt (pZ bp) r h c::L3) (Vs.drop (.cons _ (.cons _ (.cons _ (.cons _ (.cons _ (Adb _))))))) ⟨hl,none,0,L3,rfl,RSl.nil,⟨hk0,hk1,(by decide:(-1:Int)≤ -1),(by decide:(-1:Int)≤16384),Aej _⟩,rfl,hp2⟩
  ·obtain⟨x,rfl⟩:∃y,x=y+1:=⟨x - 1,by omega⟩
   have hil:=hli (by rw[hlf];simp;omega);clear hlv hli hlf;have hii:i<n.kids.length:=by omega
   have hgk:n.kids.getD i 0=n.kids[i]:=by rw[Adh,Ade hii];rfl
   have hI:=HX (key:=key) he hne hfd (u:=BK s n.kids[i] key (x+1)) (by rw[hgk]);have hkb:=hkd _ (Aec hii);have hnk0:=hnk;obtain⟨b1,T1,l1,c1,cs1,q1,rfl,hcl1,hcs,hle1,⟨rfl,hb1,hb2⟩,hset⟩:=Ap.at (by omega) r3 hii;cases q1;have c0:=hcs 0 _ rfl;have hnp':(BK s n.kids[i] key (x+1)).2.2.2≠99999:=by
    intro q;rw[hI,if_pos (.inl (by rw[q];decide))] at hnp;exact hnp q
   refine Ar rfl (by omega) ?_;(refine Ak<|Ad<|Am rfl<|Ai rfl<|Ag rfl (Aj 0 rfl rfl)<|Ab rfl<|Bz _ rfl rfl rfl (by omega)<|Ag rfl (Aj 4 rfl (by assumption))<|Ab rfl<|C6 rfl rfl (by omega) (by omega)<|Al rfl ?_);refine Ft (g:=88) (v:=vZ ((x+1:Nat):Int)) (congrArg (Value.int .i64) (by push_cast;omega)) ?_;skip;refine A7 [_,_,_,_,_] (ih x (Nat.lt_succ_self x) (k:=n.kids[i]) (by omega) hp2 hw2 (by omega) (by omega) hnp') rfl rfl (fun v d3 L4 hl3 ⟨_,ua,uc,L5,e3,hk3,hm3,e4,hp5⟩=>?_);subst e3;subst e4;generalize BK s n.kids[i] key (x+1)=U at hI hk3 hm3 hp5;clear hnp';rw[hI] at hnp⊢;(refine AU rfl<|Ao rfl rfl<|Ao rfl rfl<|Ao rfl rfl<|B0 (fun _ _=>?_));rename_i b20 T20;refine Bn 0 rfl rfl rfl rfl (Adi _) rfl ?_;obtain⟨us,um,uw,ue⟩:=U;simp only at hI hk3 hm3 hp5 hnp⊢;clear hI;by_cases hz:ue=0
   ·subst hz;cases uw with
    |true=>
     rw[if_neg (by simp)] at hnp⊢
     have hmo1:=hm3.p0
     have hmo2:=hm3.p1
     by_cases hc:um.other<0∧um.size<80
     ·rw[if_pos hc] at hnp⊢
      have hkl1:1≤n.keys.length:=by
       refine Classical.byContradiction fun q=>hnp ?_;show(C1 us k {n with kids:=n.kids.set i um.page} i).2.2=99999;unfold C1;rw[if_pos (show n.keys.length=0 by omega)]
      clear hnp
      obtain⟨hc1,hc2⟩:=hc
      have hrow:=hset [vZ um.page] um.page rfl ⟨rfl,by omega,by omega⟩
      have hkb2:∀y∈n.kids.set i um.page, -1≤y∧y≤16384:=fun y hy=>by
       rcases PH hy with rfl|hy
       ·omega
       ·have:=hkd y hy;omega
      (refine Ae rfl<|Ab rfl<|Aa<|Af<|Ad<|Ab rfl<|AN rfl rfl<|Ae rfl<|Bf rfl (by omega)<|Ah rfl<|Ae rfl<|Ah rfl<|Bx rfl<|Aw rfl rfl<|Aa<|AS rfl<|Ak<|Af<|Ad<|Ai rfl<|Ag rfl (Aj 0 rfl rfl)<|AE rfl rfl<|Ae rfl<|Bp rfl (by omega)<|Ah rfl<|Ai rfl<|Ah rfl<|Ag rfl (Aj 0 rfl rfl)<|Ah rfl<|AE rfl rfl<|AI rfl rfl<|Aa<|Ax rfl (by omega)<|Ad<|Ai rfl<|Ag rfl (Aj 1 rfl rfl)<|Ab rfl<|Ai rfl<|Ag rfl (Aj 0 rfl rfl)<|Bz _ rfl rfl rfl (by omega) ?_)
      refine A6 5 (patch l1 (i*1) [vZ um.page]) rfl rfl rfl rfl (by omega) rfl rfl ?_
      (refine Aa<|Ad<|Am rfl<|Ab rfl<|Bh 1 rfl rfl rfl<|Ab rfl ?_)
      refine A7 [_,_,_] (h7 (k:=k) (n:={n with kids:=n.kids.set i um.page}) (i:=i) hp5 ⟨_,_,_,by show _=[Value.bool n.leaf,_,_,_];rfl,r1.En hl3,r2.En hl3,hrow.Hk hl3⟩
       ⟨by have:=hfit.k;show n.keys.length≤400;omega,by have:=hfit.v;show n.vals.length≤400;omega,by have:=hfit.i;show(n.kids.set i um.page).length≤400;rw[Aen];omega,hfit.kl,hfit.vl⟩ hkl1 (by show(n.kids.set i um.page).length=_;rw[Aen];exact hil) hile
       hkb2 hk0 hk1) rfl rfl (fun v d6 L6 hl6 ⟨_,ua',uc',L7,e6,hk6,hmm,e7,hp7⟩=>?_)
      subst e6;subst e7
      (refine AU rfl<|Ao rfl rfl<|Ao rfl rfl<|B0 (fun _ _=>?_))
      rename_i b22 T22
      refine Bn 0 rfl rfl rfl rfl (Adi _) rfl ?_
      (refine Ab rfl<|Aa<|Ad<|Bh 0 rfl rfl rfl<|Ab rfl ?_)
      refine Bn 3 rfl rfl rfl rfl (Adi _) rfl ?_
      (refine Ae rfl<|Ab rfl<|Aa<|An ?_)
      exact Bd [mdV (C1 us k {n with kids:=n.kids.set i um.page} i).2.1 ua' uc',.bool true,vZ (C1 us k {n with kids:=n.kids.set i um.page} i).2.2] ⟨AV 3 rfl rfl rfl,As rfl,As rfl,trivial⟩ (d':=d6) (L':=tb bt Tt (pZ bp) r h c::L7) (Vs.drop (.cons _ (.cons _ (.cons _ (.cons _ (Adb _)))))) ⟨(hl.trans hl3).trans hl6,ua',uc',L7,rfl,hk6,hmm,rfl,hp7⟩
     ·rw[if_neg hc] at hnp⊢
      clear hnp
      have hmo:=Qz hp5.Fm (n:=n) (i:=i) hk0 hk1 hfit.kl hm3
      (refine Ae rfl<|Ab rfl<|Aa ?_)
      apply Af;apply Af;apply AB
      (refine Ab rfl<|AN rfl rfl<|Ae rfl<|Bf rfl (by omega)<|Ah rfl<|Ae rfl<|Ah rfl<|Bx rfl<|Aw rfl rfl<|Aa ?_)
      apply AS;rfl;apply Ak
      refine Gc (fun ρ d' L'=>BI ρ [(0,pZ bt),(1,vZ k),(13,vZ i),(11,pZ b13),(18,pZ b20),(8,pZ b10)]∧d3=d'∧
       L'=bx b20 T20 [vZ um.page,vZ um.other,.slice ua um.key.length uc,vZ um.size]::bx b13 T13 [.bool n.leaf,.slice ka n.keys.length kc,.slice va n.vals.length vc,.slice (some ⟨b1,0,none⟩) n.kids.length ic]::bx b10 T10 [vZ 0,vZ 0,.slice none 0 0,vZ 0]::hk::hv::bx b1 T1 l1::tb bt Tt (pZ bp) r h c::L5) ?_ ?_
      ·by_cases ho:um.other<0
       ·have hsz:¬um.size<80:=fun q=>hc ⟨ho,q⟩
        (refine Ad<|Ai rfl<|Ag rfl (Aj 0 rfl rfl)<|AE rfl rfl<|Ae rfl<|Bp rfl (by omega)<|Ah rfl<|Ai rfl<|Ah rfl<|Ag rfl (Aj 0 rfl rfl)<|Ah rfl<|AE rfl rfl<|AI rfl rfl<|Aa<|Ar rfl (by omega)<|Ak ?_)
        exact⟨⟨rfl,rfl,rfl,rfl,rfl,rfl,trivial⟩,rfl,rfl⟩
       ·(refine Ad<|Ai rfl<|Ag rfl (Aj 0 rfl rfl)<|AE rfl rfl<|Ae rfl<|Bf rfl (by omega)<|Aq rfl<|Aq rfl<|Aq rfl<|Aw rfl rfl<|Aa<|AS rfl<|Ak ?_)
        exact⟨⟨rfl,rfl,rfl,rfl,rfl,rfl,trivial⟩,rfl,rfl⟩
      ·rintro ρ d' L' ⟨hsl,hdd,hLL⟩
       subst hdd;subst hLL
       refine Dw _ hsl ?_
       (refine Ad<|Am rfl<|Ab rfl<|Bh 1 rfl rfl rfl<|Ab rfl<|Bh 0 rfl rfl rfl ?_)
       refine A7 [_,_,_] (h8 (k:=k) (n:=n) (i:=i) (m:=um) hp5 (hnk0.mono hl3) ⟨by have:=hfit.k;omega,by have:=hfit.v;omega,by have:=hfit.i;omega,hfit.kl,hfit.vl⟩ hii (fun _=>hile) hm3 hk3) rfl rfl (fun v d6 L6 hl6 ⟨_,ua',uc',L7,e6,hk6,e7,hp7⟩=>?_)
       subst e6;subst e7
       (refine AU rfl<|Ao rfl rfl<|Ao rfl rfl<|B0 (fun _ _=>?_))
       rename_i b22 T22
       refine Bn 0 rfl rfl rfl rfl (Adi _) rfl ?_
       (refine Ab rfl<|Aa<|Ad<|Bh 0 rfl rfl rfl<|Ab rfl ?_)
       refine Bn 3 rfl rfl rfl rfl (Adi _) rfl ?_
       (refine Ae rfl<|Ab rfl<|Aa<|An ?_)
       exact Bd [mdV (BJ us k n i um).2.1 ua' uc',.bool true,vZ (BJ us k n i um).2.2] ⟨AV 3 rfl rfl rfl,As rfl,As rfl,trivial⟩ (d':=d6) (L':=tb bt Tt (pZ bp) r h c::L7) (Vs.drop (.cons _ (.cons _ (.cons _ (.cons _ (Adb _)))))) ⟨(hl.trans hl3).trans hl6,ua',uc',L7,rfl,hk6,hmo,rfl,hp7⟩
    |false=>
     rw[if_pos (.inr rfl)]
     clear hnp
     (refine Ae rfl<|Ab rfl<|Aa<|Af<|Ad<|Ab rfl<|AN rfl rfl<|Ae rfl<|Bf rfl (by omega)<|Ah rfl<|Ae rfl<|Ah rfl<|Bx rfl<|Aw rfl rfl<|Aa<|Bj rfl<|Ad<|Ab rfl<|BR rfl<|Ae rfl<|Ab rfl ?_)
     refine Bn 2 rfl rfl rfl rfl (Adi _) rfl ?_
     (refine Ae rfl<|Ab rfl<|Aa<|An ?_)
     exact Bd [mdV ⟨k, -1,[],256⟩ none 0,.bool false,vZ 0] ⟨AV 2 rfl rfl rfl,As rfl,As rfl,trivial⟩ (d':=d3) (L':=tb bt Tt (pZ bp) r h c::L5) (Vs.drop (.cons _ (.cons _ (.cons _ (.cons _ (.cons _ (.cons _ (Adb _)))))))) ⟨hl.trans hl3,none,0,L5,rfl,RSl.nil,⟨hk0,hk1,(by decide:(-1:Int)≤ -1),(by decide:(-1:Int)≤16384),Aej _⟩,rfl,hp5⟩
   ·rw[if_pos (.inl hz)];clear hnp;(refine Ae rfl<|Ab rfl<|Aa<|Af<|Ad<|Ab rfl<|AN rfl rfl<|Ae rfl<|Bp rfl (by omega)<|Aq rfl<|Aq rfl<|AI rfl rfl<|Aa<|Bj rfl<|Ad<|Ab rfl<|BR rfl<|Ae rfl<|Ab rfl ?_);refine Bn 2 rfl rfl rfl rfl (Adi _) rfl ?_;(refine Ae rfl<|Ab rfl<|Aa<|An ?_);exact Bd [mdV ⟨k, -1,[],256⟩ none 0,.bool uw,vZ ue] ⟨AV 2 rfl rfl rfl,As rfl,As rfl,trivial⟩ (d':=d3) (L':=tb bt Tt (pZ bp) r h c::L5) (Vs.drop (.cons _ (.cons _ (.cons _ (.cons _ (.cons _ (.cons _ (Adb _)))))))) ⟨hl.trans hl3,none,0,L5,rfl,RSl.nil,⟨hk0,hk1,(by decide:(-1:Int)≤ -1),(by decide:(-1:Int)≤16384),Aej _⟩,rfl,hp5⟩
 ·rw[Yb he];clear hnp;(refine Ab rfl<|Aa<|Af<|Ad<|Ab rfl<|AN rfl rfl<|Aa<|Ax rfl (by omega)<|Ad<|BR rfl<|Ab rfl ?_);refine Bn 1 rfl rfl rfl rfl (Adi _) rfl ?_;(refine Ae rfl<|Ab rfl<|Aa<|An ?_);exact Bd [mdV Co none 0,.bool false,vZ (AT s k ((x+1:Nat):Int)).2] ⟨AV 1 rfl rfl rfl,As rfl,As rfl,trivial⟩ (d':=d2) (L':=tb bt Tt (pZ bp) r h c::L3) (Vs.drop (.cons _ (.cons _ (.cons _ (.cons _ (.cons _ (Adb _))))))) ⟨hl,none,0,L3,rfl,RSl.nil,Ej,rfl,hp2⟩
structure Vh (t:TD) (key:List UInt8):Prop where
 far:Mg t
 np:t.height≠0→(BK t.s t.root key t.height).2.2.2≠99999
 c:t.height≠0→1≤t.count
 hh:(CP {t with s:=(BK t.s t.root key t.height).1,count:=t.count - 1} (BK t.s t.root key t.height).2.1).1.height≠0∨t.height=0
def PV(P:Program)(f:FuncId):Prop:=∀{d}{t:TD}{dv pv L}{bt b2 b3 b7:Nat}{Tt T2 T3 T7 ka}{kc:Nat}{key},PgT d t.s dv pv L→AM d (.slice ka key.length kc) key→Vh t key→
 Av P f [pZ b2,pZ b3,pZ b7] d (tbD bt Tt pv t::([bx b2 T2 [pZ bt],bx b3 T3 [.slice ka key.length kc],bx b7 T7 [.bool false]]++L))
  (Ret fun v d' L'=>Le d d'∧v=vZ (BF t key).2.2∧∃L2,L'=tbD bt Tt pv (BF t key).1::([bx b2 T2 [pZ bt],bx b3 T3 [.slice ka key.length kc],bx b7 T7 [.bool (BF t key).2.1]]++L2)∧PgT d' (BF t key).1.s dv pv L2)
def M7(a0 a1 a2:Nat):A5:=⟨50,[(.tmp 3)],(sR (o1 3 (.mv z0) .done) (.seq (sR (ol 8 0<|o1 9 (.nilc 8)<|oj 10 2 9<|ol 11 10<|ob 12 .eql 11 z0 .done) (.cond 12 (sR (o1 3 (.mv z0) .done) .ret) .skip)) (.seq (.reg true (pl 14 0<|pl 15 0<|p1 16 (.nilc 15)<|p1 17 (.fld 1 16)<|pl 18 17<|pl 19 0<|p1 20 (.nilc 19)<|p1 21 (.fld 2 20)<|pl 22 21<|pl 23 1 (.par (o1 4 (.alo (.agg #[(vZ 0),(vZ 0),(.slice none 0 0),(vZ 0)])) .done) (oc 24 a0 [14,18,22,23] (pm 13 24 (p1 25 (.ext 13 0) (p1 26 (.ext 13 1) (p1 27 (.ext 13 2) .done))))) (o0 (.st 4 4 25) (pm 5 26 (pm 6 27 .done)))))) (.seq (sR (om 28 6<|ob 29 .neq 28 z0<|om 30 29<|gF 31 30 5<|oF 32 30 (.un .not 31)<|o1 33 (.pick 30 (.const (.bool true)) 32) .done) (.cond 33 (sR (om 34 6<|om 3 34 .done) .ret) .skip)) (sR (o0 (.st 1 2 (.const (.bool true))) .done) (sR (ol 35 0<|o1 36 (.nilc 35)<|oj 37 3 36<|ol 38 37<|ob 39 .sub 38 z1<|o1 40 (.nilc 35)<|oj 41 3 40<|o0 (.st 1 41 39) .done) (.seq (sR (ol 42 0<|o1 43 (.ld (some 4) 4)<|oc 44 a1 [42,43]<|om 7 44 .done) (sR (om 45 7<|ob 46 .neq 45 z0 .done) (.cond 46 (sR (om 47 7<|om 3 47 .done) .ret) .skip))) (sR (ol 48 0<|oc 49 a2 [48]<|om 3 49 .done) .ret))))))))⟩
set_option maxRecDepth 4000 in
set_option maxHeartbeats 4000000 in
def Yt{P f}(hd:Kc P f=some (M7 f1 f2 f3))(h1:Si P f1)(h2:Jr P f2)(h3:K5 P f3):PV P f:=by
 intro d t dv pv L bt b2 b3 b7 Tt T2 T3 T7 ka kc key hp hk hcan;obtain⟨bp,rfl⟩:=hp.ptr;obtain⟨s,root,height,count⟩:=t;obtain⟨hr0,hr1,hh,hc⟩:=hcan.far;simp only at hp hr0 hr1 hh hc;refine AF hd (Ada rfl) ?_;show gwp P _ _ _ _ _;apply Af;apply AB;refine B9 d ([bx b2 T2 [pZ bt],bx b3 T3 [.slice ka key.length kc],bx b7 T7 [.bool false]]++tb bt Tt (pZ bp) root height count::L) (Vs.perm List.perm_middle.symm) ?_;by_cases hh0:height=0
 ·subst hh0;have hF:BF ⟨s,root,0,count⟩ key=(⟨s,root,0,count⟩,false,0):=by unfold BF;rw[if_pos rfl]
  rw[hF];(refine Ab rfl<|Aa<|Af<|Ad<|Ag rfl (Aj 0 rfl rfl)<|Au rfl<|Ai rfl<|Ag rfl (Aj 3 rfl rfl)<|AO rfl rfl<|Aa<|Ax rfl (by omega)<|Ad<|Ab rfl<|Aa<|An ?_);exact Bd [vZ 0] ⟨As rfl,trivial⟩ (d':=d) (L':=tbD bt Tt (pZ bp) ⟨s,root,0,count⟩::([bx b2 T2 [pZ bt],bx b3 T3 [.slice ka key.length kc],bx b7 T7 [.bool false]]++L)) (Vs.perm (Aep (a:=tbD bt Tt (pZ bp) ⟨s,root,0,count⟩) (l₁:=[bx b2 T2 [pZ bt],bx b3 T3 [.slice ka key.length kc],bx b7 T7 [.bool false]]) (l₂:=L))) ⟨Le.refl _,rfl,L,rfl,hp⟩
 ·have hF:BF ⟨s,root,height,count⟩ key=if (BK s root key height).2.2.2≠0∨(BK s root key height).2.2.1=false then(⟨(BK s root key height).1,root,height,count⟩,false,(BK s root key height).2.2.2) else
    if (CP ⟨(BK s root key height).1,root,height,count - 1⟩ (BK s root key height).2.1).2≠0 then((CP ⟨(BK s root key height).1,root,height,count - 1⟩ (BK s root key height).2.1).1,true,(CP ⟨(BK s root key height).1,root,height,count - 1⟩ (BK s root key height).2.1).2) else
    ((CH (CP ⟨(BK s root key height).1,root,height,count - 1⟩ (BK s root key height).2.1).1).1,true,(CH (CP ⟨(BK s root key height).1,root,height,count - 1⟩ (BK s root key height).2.1).1).2):=by
   unfold BF;rw[if_neg hh0]
  rw[hF];clear hF;obtain⟨x,rfl⟩:∃x,height=x+1:=⟨height - 1,by omega⟩
  (refine Ab rfl<|Aa<|Af<|Ad<|Ag rfl (Aj 0 rfl rfl)<|Au rfl<|Ai rfl<|Ag rfl (Aj 3 rfl rfl)<|AO rfl rfl<|Aa<|Ar rfl (by omega)<|Ak<|Af ?_);have hc1:=hcan.c hh0;have hnp:=hcan.np hh0;have hgr:=hcan.hh.resolve_right hh0;simp only at hc1 hnp hgr;clear hcan;refine Bv [_,_,_,_] L rfl ?_;(refine Ag rfl (Aj 0 rfl rfl)<|Ag rfl (Aj 0 rfl rfl)<|Au rfl<|Ai rfl<|Ag rfl (Aj 3 rfl rfl)<|Ag rfl (Aj 0 rfl rfl)<|Au rfl<|Ai rfl<|Ag rfl (Aj 3 rfl rfl)<|Ag rfl (Aj 1 rfl rfl) ?_);have hins:=h1 x (r:=root) (h:=((x+1:Nat):Int)) (c:=count) (bt:=bt) (Tt:=Tt) (k:=root) (by omega) hp hk hr0 hr1 hnp;generalize BK s root key (x+1)=U at hins hgr⊢;clear hnp;refine GK (α:=Nat×TypeId) (β:=Option Addr×Nat×List Ac) [(0,pZ b2),(1,pZ b3),(2,pZ b7),(3,vZ 0)]
   (fun x=>[(4,.pointer (some ⟨x.1,0,none⟩))]) (fun x d L=>L=[bx x.1 x.2 [vZ 0,vZ 0,.slice none 0 0,vZ 0]])
   (fun y=>[(25,mdV U.2.1 y.1 y.2.1),(26,.bool U.2.2.1),(27,vZ U.2.2.2)]) (fun y d' M=>AM d' (.slice y.1 U.2.1.key.length y.2.1) U.2.1.key∧MOk U.2.1∧PgT d' U.1 dv (pZ bp) y.2.2∧M=y.2.2) [] L rfl
   (fun x d d' M hl h=>h) (fun y d d' M hl h=>⟨RSl.mono (R:=AP) A3 h.1 hl,h.2.1,h.2.2.1.mono hl,h.2.2.2⟩) (fun x=>rfl) (fun y=>rfl) rfl ⟨rfl,rfl,rfl,rfl,trivial⟩ ?_ ?_ ?_
  ·refine B0 (fun b8 T8=>?_);(apply A9);exact⟨_,rfl,(b8,T8),⟨rfl,trivial⟩,rfl⟩
  ·refine Ql (B:=[_,_,_]) hins (Adl (l₁:=[_,_,_])) rfl (fun v d4 L4 hl4 ⟨_,wa,wc,L5,e4,hk4,hm4,e5,hp5⟩=>⟨L5,by rw[e5];exact Adl (l₂:=[_,_,_]),?_⟩);subst e4;(refine AU rfl<|Ao rfl rfl<|Ao rfl rfl<|Ao rfl rfl<|A9 ?_);exact⟨_,rfl,(wa,wc,L5),⟨rfl,rfl,rfl,trivial⟩,hk4,hm4,hp5,rfl⟩
  rintro⟨b8,T8⟩ ⟨wa,wc,L5⟩ ρ2 d4 M1 M2 hl4 hM1 ⟨hk4,hm4,hp5,hM2⟩;subst hM1;subst hM2;simp only at hk4 hp5⊢;refine Bn 0 rfl rfl rfl rfl (Adi _) rfl ?_;clear hins;obtain⟨us,um,uw,ue⟩:=U;simp only at hk4 hm4 hp5 hgr⊢;(refine Ae rfl<|Ab rfl<|A9<|Af<|Ad<|Ab rfl<|AN rfl rfl<|Ae rfl ?_);by_cases hue:ue=0
  ·subst hue;cases uw with
   |true=>
    rw[if_neg (by simp)]
    (refine Bf rfl (by omega)<|Ah rfl<|Ae rfl<|Ah rfl<|Bx rfl<|Aw rfl rfl<|Aa<|AS rfl<|Ak<|Ad ?_)
    refine A6 2 [.bool true] rfl rfl rfl rfl (Adi _) rfl rfl ?_
    (refine Aa<|Ad<|Ag rfl (Aj 0 rfl rfl)<|Au rfl<|Ai rfl<|Ag rfl (Aj 3 rfl rfl)<|C6 rfl rfl (by omega) (by omega)<|Au rfl<|Ai rfl ?_)
    have hcc:(count:Int) - 1=((count - 1:Nat):Int):=by omega
    refine A6 3 [pZ bp,vZ root,vZ ((x+1:Nat):Int),vZ ((count:Int) - 1)] rfl rfl rfl rfl (Ada rfl) rfl rfl ?_
    rw[hcc]
    (refine Aa<|Af<|Ad<|Ag rfl (Aj 0 rfl rfl)<|Bh 4 rfl rfl rfl ?_)
    refine Dh (A:=tbD bt Tt (pZ bp) ⟨us,root,x+1,count - 1⟩::M2) (B:=[_,_,_,_]) (h2 (t:=⟨us,root,x+1,count - 1⟩) (m:=um) hp5 hk4 hm4 (by show x+1≤1000000;omega))
     ((Aep (l₁:=[_,_,_])).trans (Ads _ (Adl (l₁:=[_,_,_,_])))) rfl (fun v d6 L6 hl6 ⟨_,e6,L7,e7,hp7⟩=>?_)
    subst e6;subst e7
    have hg1:(CP ⟨us,root,x+1,count - 1⟩ um).1.height≤1000001:=by unfold CP;split<;>simp only<;>omega
    generalize CP ⟨us,root,x+1,count - 1⟩ um=Q at hgr hp7 hg1
    obtain⟨tq,eq⟩:=Q
    simp only at hgr hp7 hg1⊢
    refine⟨d6,[_,_,_,_]++tbD bt Tt (pZ bp) tq::L7,Vs.perm (Adl (l₂:=[_,_,_,_])),?_⟩
    (refine Ab rfl<|Aa<|Ad<|Ab rfl<|AN rfl rfl<|Aa ?_)
    by_cases hqe:eq=0
    ·rw[if_neg (fun q=>q hqe)]
     (refine Ar rfl (by omega)<|Ak<|Ad<|Ag rfl (Aj 0 rfl rfl) ?_)
     refine A7 [_,_,_,_] (h3 (t:=tq) hp7 (by omega) hg1) rfl rfl (fun v d8 L8 hl8 ⟨_,e8,L9,e9,hp9⟩=>?_)
     subst e8;subst e9
     (refine Ab rfl<|Aa<|An ?_)
     exact Bd [vZ _] ⟨As rfl,trivial⟩ (d':=d8) (L':=tbD bt Tt (pZ bp) (CH tq).1::([bx b2 T2 [pZ bt],bx b3 T3 [.slice ka key.length kc],bx b7 T7 [.bool true]]++L9)) ((Vs.drop (L':=[bx b2 T2 [pZ bt],bx b3 T3 [.slice ka key.length kc],bx b7 T7 [.bool true]]++(tbD bt Tt (pZ bp) (CH tq).1::L9)) (.cons_cons _ (.cons_cons _ (.cons_cons _ (.cons _ (Adb _)))))).trans (Vs.perm Aep)) ⟨(hl4.trans hl6).trans hl8,rfl,L9,rfl,hp9⟩
    ·rw[if_pos hqe]
     (refine Ax rfl (by omega)<|Ad<|Ab rfl<|Ab rfl<|Aa<|An ?_)
     exact Bd [vZ eq] ⟨As rfl,trivial⟩ (d':=d6) (L':=tbD bt Tt (pZ bp) tq::([bx b2 T2 [pZ bt],bx b3 T3 [.slice ka key.length kc],bx b7 T7 [.bool true]]++L7)) ((Vs.drop (L':=[bx b2 T2 [pZ bt],bx b3 T3 [.slice ka key.length kc],bx b7 T7 [.bool true]]++(tbD bt Tt (pZ bp) tq::L7)) (.cons_cons _ (.cons_cons _ (.cons_cons _ (.cons _ (Adb _)))))).trans (Vs.perm Aep)) ⟨hl4.trans hl6,rfl,L7,rfl,hp7⟩
   |false=>
    rw[if_pos (.inr rfl)]
    (refine Bf rfl (by omega)<|Ah rfl<|Ae rfl<|Ah rfl<|Bx rfl<|Aw rfl rfl<|Aa<|Bj rfl<|Ad<|Ab rfl<|Ab rfl<|Aa<|An ?_)
    exact Bd [vZ 0] ⟨As rfl,trivial⟩ (d':=d4) (L':=tbD bt Tt (pZ bp) ⟨us,root,x+1,count⟩::([bx b2 T2 [pZ bt],bx b3 T3 [.slice ka key.length kc],bx b7 T7 [.bool false]]++M2)) ((Vs.drop (L':=[bx b2 T2 [pZ bt],bx b3 T3 [.slice ka key.length kc],bx b7 T7 [.bool false]]++(tbD bt Tt (pZ bp) ⟨us,root,x+1,count⟩::M2)) (.cons_cons _ (.cons_cons _ (.cons_cons _ (.cons_cons _ (.cons _ (Adb _))))))).trans (Vs.perm Aep)) ⟨hl4,rfl,M2,rfl,hp5⟩
  ·rw[if_pos (.inl hue)];(refine Bp rfl (by omega)<|Aq rfl<|Aq rfl<|AI rfl rfl<|Aa<|Bj rfl<|Ad<|Ab rfl<|Ab rfl<|Aa<|An ?_);exact Bd [vZ ue] ⟨As rfl,trivial⟩ (d':=d4) (L':=tbD bt Tt (pZ bp) ⟨us,root,x+1,count⟩::([bx b2 T2 [pZ bt],bx b3 T3 [.slice ka key.length kc],bx b7 T7 [.bool false]]++M2)) ((Vs.drop (L':=[bx b2 T2 [pZ bt],bx b3 T3 [.slice ka key.length kc],bx b7 T7 [.bool false]]++(tbD bt Tt (pZ bp) ⟨us,root,x+1,count⟩::M2)) (.cons_cons _ (.cons_cons _ (.cons_cons _ (.cons_cons _ (.cons _ (Adb _))))))).trans (Vs.perm Aep)) ⟨hl4,rfl,M2,rfl,hp5⟩
def Cu(t:TD)(key:List UInt8):TD×Bool×Int:=
 if BV key≠0 then(t,false,BV key) else(B8 t (BF t key).1 (BF t key).2.2,(BF t key).2.1 && decide ((BF t key).2.2=0),(BF t key).2.2)
def LV(P:Program)(f:FuncId):Prop:=∀{d}{t:TD}{dv pv kv L}{bt:Nat}{Tt key},PgT d t.s dv pv L→AM d kv key→(BV key=0→Vh t key)→
 Av P f [pZ bt,kv] d (tbD bt Tt pv t::L) (Ret fun v d' L'=>Le d d'∧v=.tuple #[.bool (Cu t key).2.1,vZ (Cu t key).2.2]∧∃L2,L'=tbD bt Tt pv (Cu t key).1::L2∧PgT d' (Cu t key).1.s dv pv L2)
def Pb(a0 a1 a2:Nat):A5:=⟨24,[(.tmp 4),(.tmp 5)],(sR (o1 2 (.box 0)<|o1 3 (.box 1)<|o1 4 (.mv (.const (.bool false)))<|o1 5 (.mv z0) .done) (.seq (sR (ol 9 2<|ol 10 3<|oc 11 a0 [9,10]<|om 6 11 .done) (sR (om 12 6<|ob 13 .neq 12 z0 .done) (.cond 13 (sR (om 14 6<|o1 4 (.mv (.const (.bool false)))<|om 5 14 .done) .ret) .skip))) (sR (o1 7 (.alo (.bool false))<|o0 (.st 1 7 (.const (.bool false))) .done) (sR (ol 15 2<|o1 16 (.mkf (.func a1) [] [2,3,7])<|oc 17 a2 [15,16]<|om 8 17 .done) (sR (ol 18 7<|om 19 18<|gT 20 19 8<|oT 21 19 (.bin .eql 20 z0)<|gP 22 19 21<|om 23 8<|om 4 22<|om 5 23 .done) .ret)))))⟩
set_option maxRecDepth 4000 in
set_option maxHeartbeats 2000000 in
def AaL{P f}(hd:dec P f=some (Pb f1 f2 f3))(h1:KN P f1)(h2:PV P f2)(h3:I5 P f3):LV P f:=by
 intro d t dv pv kv L bt Tt key hp hk hf;obtain⟨bp,rfl⟩:=hp.ptr;obtain⟨ka,kc,rfl⟩:=hk.val;refine AF hd (Ada rfl) ?_;show gwp P _ _ _ _ _;apply Af;apply AB;refine FB rfl (fun b2 T2=>?_);refine FB rfl (fun b3 T3=>?_);(refine Ae rfl<|Ab rfl<|Aa<|Af<|Ad<|Ag rfl (Aj 1 rfl rfl)<|Ag rfl (Aj 0 rfl rfl) ?_);refine A7 [_,_] (h1 (L:=L) hk) rfl rfl (fun v d2 L2 _ ⟨e1,e2,e3⟩=>?_);subst e1;subst e2;subst e3;by_cases hw:BV key=0
 ·have hF:Cu t key=(B8 t (BF t key).1 (BF t key).2.2,(BF t key).2.1 && decide ((BF t key).2.2=0),(BF t key).2.2):=by unfold Cu;rw[if_neg (fun q=>q hw)]
  have hcan:=hf hw;rw[hF,hw];(refine Ab rfl<|Aa<|Ad<|Ab rfl<|AN rfl rfl<|Aa<|Ar rfl (by omega)<|Ak<|Ad<|DW (fun _ _=>?_));rename_i b7 T7;refine A6 0 [.bool false] rfl rfl rfl rfl (Adi _) rfl rfl ?_;(refine Aa<|Ad<|Ag rfl (Aj 2 rfl rfl)<|O5 ?_);refine Dh (A:=tbD bt Tt (pZ bp) t::([bx b2 T2 [pZ bt],bx b3 T3 [.slice ka key.length kc],bx b7 T7 [.bool false]]++L)) (B:=[])
   (h3 (t':=(BF t key).1) (e:=(BF t key).2.2) (X':=[bx b2 T2 [pZ bt],bx b3 T3 [.slice ka key.length kc],bx b7 T7 [.bool (BF t key).2.1]]) hp (R3 t key) (fun d1 hl1=>h2 (hp.mono hl1) (RSl.mono (R:=AP) A3 hk hl1) hcan)) ?_ rfl (fun v d4 L4 hl4 ⟨_,e4,L5,e5,hp5⟩=>?_)
  ·rw[Aed];refine(Aep (l₁:=[_,_,_])).trans (Ads _ (List.Perm.append_right L ?_));exact(Adl (l₁:=[_,_]) (l₂:=[_])).trans (Ads _ (Aee _ _ _))
  ·subst e4;subst e5;refine⟨d4,_,Vs.refl _ _,?_⟩
   rw[Aed];generalize (BF t key).2.1=b;cases b with
   |true=>
    (refine Ab rfl<|Aa<|Ad<|Ag rfl (Aj 3 rfl rfl)<|Ae rfl<|Ah rfl<|Ab rfl<|Ah rfl<|AO rfl rfl<|AI rfl rfl<|Ab rfl<|Ae rfl<|Ab rfl<|Aa<|An ?_)
    exact Bd [.bool (decide ((BF t key).2.2=0)),vZ (BF t key).2.2] ⟨As rfl,As rfl,trivial⟩ (d':=d4) (L':=tbD bt Tt (pZ bp) (B8 t (BF t key).1 (BF t key).2.2)::L5) (Vs.drop (.cons_cons _ (.cons _ (.cons _ (.cons _ (Adb _)))))) ⟨hl4,by rw[Agg];rfl,L5,rfl,hp5⟩
   |false=>
    (refine Ab rfl<|Aa<|Ad<|Ag rfl (Aj 3 rfl rfl)<|Ae rfl<|Aq rfl<|Aq rfl<|Aw rfl rfl<|Ab rfl<|Ae rfl<|Ab rfl<|Aa<|An ?_)
    exact Bd [.bool false,vZ (BF t key).2.2] ⟨As rfl,As rfl,trivial⟩ (d':=d4) (L':=tbD bt Tt (pZ bp) (B8 t (BF t key).1 (BF t key).2.2)::L5) (Vs.drop (.cons_cons _ (.cons _ (.cons _ (.cons _ (Adb _)))))) ⟨hl4,rfl,L5,rfl,hp5⟩
 ·have hF:Cu t key=(t,false,BV key):=by unfold Cu;rw[if_pos hw]
  rw[hF];(refine Ab rfl<|Aa<|Ad<|Ab rfl<|AN rfl rfl<|Aa<|Ax rfl (by omega)<|Ad<|Ab rfl<|Ae rfl<|Ab rfl<|Aa<|An ?_);exact CO (L':=tbD bt Tt (pZ bp) t::L) rfl rfl (.cons _ (.cons _ (Adb _))) ⟨Le.refl _,rfl,L,rfl,hp⟩
end Go.Gk.Tre
end
section
namespace Go.Gk.Tre
open Go Go.Gk Go.Gk.Dev Go.Gk.Cch Go.Gk.Pgr Go.Gk.Chn Go.Gk.Node
variable{s:PD}{t:TD}{N i:Nat}{l:List KV}{P:List Int}{key:List UInt8}
def SD(s:PD)(P:List Int):Prop:=∀k,A4 s k↔k∈P
def SD.mv{t}{A B:List Int}{c:Nat}(h:SD s A)(k:Mv s t A B c):SD t B:=fun p=>by
 rw[k.lv,h p];exact⟨fun q=>q.elim (fun q=>absurd q.1 q.2) id,.inr⟩
structure Gr (N i:Nat) (t:TD) (l:List KV) (P:List Int):Prop where
 ok:Tok t l P
 on:SD t.s P
 ln:l.length≤i
 kv:∀x∈l,x.1.length≤64∧x.2.length≤700
 kn:t.s.kinds.length=N
def Gr.more{j:Nat}(h:Gr N i t l P)(hj:i≤j):Gr N j t l P:=⟨h.ok,h.on,by have:=h.ln;omega,h.kv,h.kn⟩
def Tok.far(h:Tok t l P)(hl:l.length≤1000):Mg t∧t.height≤2000:=by
 have hc:=h.ct;have hh:t.height≤2000:=by
  rcases h.high with ⟨_,e,_⟩|⟨_,_,e⟩
  ·omega
  ·have:t.height<2 ^ t.height:=Nat.lt_two_pow_self;omega
 refine⟨⟨?_,?_,by omega,by omega⟩,hh⟩
 ·rcases h.tr with ⟨_,e,_⟩|⟨x,_,⟨n,Q,hat,_⟩⟩
  ·omega
  ·have:=Cl h.gd hat.liv;omega
 ·rcases h.tr with ⟨_,e,_⟩|⟨x,_,⟨n,Q,hat,_⟩⟩
  ·omega
  ·have:=Cl h.gd hat.liv;omega
def TZ(t:TD)(m:MdD):t.height≤(CP t m).1.height:=by
 unfold CP;split
 ·exact Adi _
 ·exact Nat.le_succ _
def Tok.can(h:Tok t l P)(hl:l.length≤1000)(key:List UInt8):Vh t key:=by
 refine⟨(h.far hl).1,fun hh=>?_,fun hh=>?_,?_⟩
 ·rcases h.tr with ⟨e,_⟩|⟨x,e,ht⟩
  ·exact absurd e hh
  ·rw[e];rcases JD (key:=key) x h.gd ht h.nd with ⟨q,_⟩|⟨q,_⟩
   ·rw[q];decide
   ·rw[q];decide
 ·rcases h.tr with ⟨e,_⟩|⟨x,e,ht⟩
  ·exact absurd e hh
  ·rw[h.ct];exact Em.1 ht.ne
 ·by_cases hh:t.height=0
  ·exact .inr hh
  ·refine .inl (fun q=>?_);have:=TZ {t with s:=(BK t.s t.root key t.height).1,count:=t.count - 1} (BK t.s t.root key t.height).2.1;rw[q] at this;exact hh (Nat.le_zero.1 this)
def WR{t}(h:Pgr.AH s t)(hG:Pgr.Good s):Pgr.Good (t.back s.mark):=
 ⟨hG.one,hG.len,by show t.frm+s.kinds.length≤t.syn.length;rw[h.frm,h.syn];exact hG.inn,by show t.syn.length≤8192;rw[h.syn];exact hG.syn,hG.kd⟩
def XB{t}(h:Pgr.AH s t)(P:List Int):CQ s (t.back s.mark) P:=fun p _=>⟨LL h p,VH h p⟩
def Tok.same(h:Tok t l P)(hG:Pgr.Good s)(hs:CQ t.s s P):Tok {t with s:=s} l P:=
 ⟨hG,h.nd,h.ct,by
  rcases h.tr with e|⟨x,e,ht⟩
  ·exact .inl e
  ·exact .inr ⟨x,e,ht.stay hs⟩⟩
def Gr.back(h:Gr N i t l P){r}(hk:Pgr.AH t.s r):Gr N i {t with s:=r.back t.s.mark} l P∧(r.back t.s.mark).free=t.s.free:=
 ⟨⟨h.ok.same (WR hk h.ok.gd) (XB hk P),fun k=>by
  have:=h.on k;unfold A4 at this⊢;show(r.back t.s.mark).kind k=1∨(r.back t.s.mark).kind k=2↔_;rw[LL hk];exact this,h.ln,h.kv,h.kn⟩,rfl⟩
def TS(h:BV key=0):1≤key.length∧key.length≤64:=by unfold BV at h;split at h<;>omega
def Gr.put(h:Gr N i t l P){v}(hw:BV key=0)(hv:v.length≤700):
  ((CW t key v).2=0∧∃P',Gr N (i+1) (CW t key v).1 (Ez l key v) P')∨
  ((CW t key v).2=190∧t.s.free<4*t.height+3+AQ v.length∧(CW t key v).1.s.free=t.s.free∧Gr N (i+1) (CW t key v).1 l P):=by
 have hk:=TS hw
 have e:CW t key v=(B8 t (CU t key v).1 (CU t key v).2,(CU t key v).2):=by unfold CW;rw[if_neg (fun q=>q hw),if_neg (by omega)]
 have hkp:=X9 t key v
 rw[e]
 rcases ZL h.ok hk (v:=v) (by omega) with ⟨h1,P',h2,h3⟩|⟨h1,h2⟩
 ·refine .inl ⟨h1,P',?_⟩
  show Gr N (i+1) (B8 t (CU t key v).1 (CU t key v).2) _ _
  unfold B8
  rw[if_pos h1]
  refine⟨h2,h.on.mv h3,?_,fun x hx=>?_,by rw[hkp.len];exact h.kn⟩
  ·have:=S0 (l:=l) (key:=key) (v:=v)
   have:=h.ln
   split at* <;>omega
  ·rcases NY hx with rfl|hx
   ·exact⟨hk.2,hv⟩
   ·exact h.kv x hx
 ·obtain⟨g1,g2⟩:=h.back hkp
  refine .inr ⟨h1,by omega,?_,?_⟩
  ·show(B8 t (CU t key v).1 (CU t key v).2).s.free=_
   unfold B8
   rw[if_neg (by rw[h1];decide)]
   exact g2
  ·show Gr N (i+1) (B8 t (CU t key v).1 (CU t key v).2) _ _
   unfold B8
   rw[if_neg (by rw[h1];decide)]
   exact g1.more (Nat.le_succ _)
def Gr.del(h:Gr N i t l P)(hw:BV key=0):
  ((Cu t key).2.2=0∧(Cu t key).2.1=isK l key∧∃P',Gr N i (Cu t key).1 (B7 l key).1 P')∨
  ((Cu t key).2.2=190∧(Cu t key).2.1=false∧t.s.free<4*t.height+1∧(Cu t key).1.s.free=t.s.free∧Gr N i (Cu t key).1 l P):=by
 have e:Cu t key=(B8 t (BF t key).1 (BF t key).2.2,(BF t key).2.1 && decide ((BF t key).2.2=0),(BF t key).2.2):=by unfold Cu;rw[if_neg (fun q=>q hw)]
 have hkp:=R3 t key
 rw[e]
 rcases Yn h.ok key with ⟨h1,h1',P',h2,h3⟩|⟨h1,h2⟩
 ·refine .inl ⟨h1,by simp[h1,h1'],P',?_⟩
  show Gr N i (B8 t (BF t key).1 (BF t key).2.2) _ _
  unfold B8
  rw[if_pos h1]
  refine⟨h2,h.on.mv h3,?_,fun x hx=>h.kv x (Gm hx),by rw[hkp.len];exact h.kn⟩
  have:=UI l key
  have:=h.ln
  omega
 ·obtain⟨g1,g2⟩:=h.back hkp
  refine .inr ⟨h1,by simp[h1],h2,?_,?_⟩
  ·show(B8 t (BF t key).1 (BF t key).2.2).s.free=_
   unfold B8
   rw[if_neg (by rw[h1];decide)]
   exact g2
  ·show Gr N i (B8 t (BF t key).1 (BF t key).2.2) _ _
   unfold B8
   rw[if_neg (by rw[h1];decide)]
   exact g1
def Ym(h:Pgr.Good s):Pgr.Good s.fin:=by
 have hl:s.fin.kinds.length=s.kinds.length:=by simp[PD.fin,PD.done,PD.flush]
 have hs:s.fin.syn.length=s.syn.length:=EM _ _;refine⟨by rw[hl];exact h.one,by rw[hl];exact h.len,by rw[hl,hs];exact h.inn,by rw[hs];exact h.syn,fun i=>?_⟩
 rcases LM h (i:=i) with q|q<;>rw[q]<;>decide
def Ou{k:Int}:A4 s.fin k↔A4 s k:=by
 unfold A4;rw[Sf];unfold Dg;constructor
 ·intro q;by_cases h3:s.kind k=3
  ·rw[if_pos h3] at q;omega
  ·rw[if_neg h3] at q;by_cases h1:s.kind k=1
   ·exact .inl h1
   ·rw[if_neg h1] at q;exact q
 ·rintro(q|q)<;>rw[q]<;>decide
def At.fin(hG:Pgr.Good s){k:Int}{n:Az}(h:At s k n):At s.fin k n:=⟨Ou.2 h.liv,by rw[Q4 hG];exact h.byt,h.rgt⟩
def Gf.fin(hG:Pgr.Good s){b}{l:List Int}(h:Gf s b l):Gf s.fin b l:=
 ⟨h.len,h.rng,fun j hj=>Ou.2 (h.live j hj),fun j hj=>by rw[Q4 hG];exact h.pg j hj⟩
def Lf.fin(hG:Pgr.Good s):∀{ks vs l}{P:List Int},Lf s ks vs l P→Lf s.fin ks vs l P
 |[],[],l,P,h=>by rw[Lf] at h⊢;exact h
 |[],_::_,l,P,h=>by rw[Lf] at h<;>simp_all
 |_::_,[],l,P,h=>by rw[Lf] at h<;>simp_all
 |k::ks,c::cs,l,P,h=>by
  rw[Lf] at h⊢;obtain⟨v,l',P1,P2,rfl,rfl,h1,h2⟩:=h;refine⟨v,l',P1,P2,rfl,rfl,?_,h2.fin hG⟩
  rcases h1 with h1|⟨q1,q2,q3,q4⟩
  ·exact .inl h1
  ·exact .inr ⟨q1,q2,Gf.fin hG q3,q4⟩
def Tr.fin(hG:Pgr.Good s):∀{h:Nat}{k:Int}{l}{P:List Int},Tr s h k l P→Tr s.fin h k l P
 |0,k,l,P,h=>h.elim
 |h+1,k,l,P,⟨n,Q,h1,h2,e,h3⟩=>by
  refine⟨n,Q,At.fin hG h1,h2,e,?_⟩
  by_cases e:h=0
  ·rw[decide_eq_true e] at h3⊢;exact .mkl h3.leaf.1 (h3.leaf.2.fin hG)
  ·rw[decide_eq_false e] at h3⊢;exact .mki h3.inner.1 (h3.inner.2.mono (fun c l P _ q=>Tr.fin hG q))
def Gr.fin(h:Gr N i t l P):Gr N i {t with s:=t.s.fin} l P:=
 ⟨⟨Ym h.ok.gd,h.ok.nd,h.ok.ct,by
  rcases h.ok.tr with e|⟨x,e,ht⟩
  ·exact .inl e
  ·exact .inr ⟨x,e,ht.fin h.ok.gd⟩⟩,fun k=>Ou.trans (h.on k),h.ln,h.kv,by show t.s.fin.kinds.length=N;rw[←h.kn];simp[PD.fin,PD.done,PD.flush]⟩
def Tok.E0(h:Tok t l P)(hw:BV key=0):Ec t key=((Eo l key).1,(Eo l key).2,0):=by
 unfold Ec;rw[if_neg (fun q=>q hw)];exact h.get key
end Go.Gk.Tre
end
section
namespace Go.Gk.Chn
open Go Go.Gk Go.Gk.Dev Go.Gk.Cch Go.Gk.Pgr Go.Gk.Node
variable{w:Value}
section
section
variable {P:Program}{pan:List PanicEntry→AR}{Qn:Env→AR}{Ls L:List Ac}{ρ:Env}{d:Ac}{s:GS}{t:Nat}{tk:Bool}
def Cov(e d:Ac)(B:List Ac):Prop:=∀x o,e x o→d x o∨∃g∈B,g x o
def AbM{e d B Lk}{b o:Nat}{v}(hc:DC e b o v)(h:Cov e d B)(hm:∀g∈B,g∈Lk):HC d Lk ⟨b,o,none⟩ v:=by
 obtain⟨c,T,fr,h1,h2⟩:=hc;rcases h _ _ h1 with h1|⟨g,hg,h1⟩
 ·exact⟨rfl,d,.inl rfl,c,T,fr,h1,h2⟩
 ·exact⟨rfl,g,.inr (hm g hg),c,T,fr,h1,h2⟩
def Cov.mono{e d d' B}(h:Cov e d B)(hl:Le d d'):Cov e d' B:=fun x o q=>(h x o q).elim (fun q=>.inl (hl x o q)) .inr
def RB(d:Ac)(B:List Ac)(w:Value)(b:List UInt8):Prop:=∃e,Cov e d B∧AM e w b
def RB.mono{d d' B b}(h:RB d B w b)(hl:Le d d'):RB d' B w b:=let ⟨e,h1,h2⟩:=h;⟨e,h1.mono hl,h2⟩
def RB.data{d b}(h:AM d w b):RB d [] w b:=⟨d,fun _ _ q=>.inl q,h⟩
def RB.own{d g b}(h:Ap 1 AP d w b g):RB d [g] w b:=
 ⟨join d g,fun _ _ q=>q.elim .inl (fun q=>.inr ⟨g,Ado ..,q⟩),Ap.rsl (R:=AP) (sz:=1) h A3 (by omega) (Le.AG _ _) (Le.Ba _ _)⟩
def RB.val{d B b}(h:RB d B w b):∃a c,w=.slice a b.length c:=let ⟨_,_,h⟩:=h;RSl.val h
def WT{e d B Lk a}{c:Nat}{l}(h:Cov e d B)(hm:∀g∈B,g∈Lk)(hw:AM e (.slice a l.length c) l):(a=none→l=[])∧∀a',a=some a'→∀j u,(l.map AA)[j]?=some u→HC d Lk (a'.add j) u:=by
 obtain⟨a0,c',b',o',q,h2,h3,h4,h5,h6,h7,h8⟩:=hw;cases q;refine⟨fun e=>Adn (by have:=h4 e;omega),fun a' ha j u hu=>?_⟩
 rw[Afq] at hu;cases q:l[j]? with
 |none=>rw[q] at hu;cases hu
 |some y=>
  rw[q] at hu
  cases hu
  obtain⟨hj,rfl⟩:=List.getElem?_eq_some_iff.1 q
  obtain⟨cs,j1,j2,j3⟩:=h8 j hj
  obtain rfl:=j3
  have ha2:=h2 (by omega)
  rw[ha] at ha2
  cases ha2
  have h9:=j2.at (i:=0) rfl
  have h0:HC d Lk ⟨b',o'+j,none⟩ (AA l[j]):=AbM (by simpa using h9) h hm
  have ea:(⟨b',o',none⟩:Addr).add j=⟨b',o'+j,none⟩:=by
   unfold Addr.add;simp
  rw[ea];exact h0
def RB.src{d B Lk l}(h:RB d B w l)(hm:∀g∈B,g∈Lk):Src 1 AP d Lk w l:=by
 obtain⟨a,c,rfl⟩:=h.val;obtain⟨e,h1,h2⟩:=h;obtain⟨k1,k2⟩:=WT h1 hm h2;refine⟨l.map AA,⟨a,c,rfl,by simp,fun e=>by rw[k1 e];rfl,k2⟩,CM _,fun i hi=>?_⟩
 simp only[AP,chunk,Afn,←List.map_drop,←List.map_take];rw[List.drop_eq_getElem_cons hi];rfl
def XQ{x y}{b o n c i:Nat}{T ls l}{t:Option Nat}{e B}(ex:ev ρ x=.slice (some ⟨b,o,none⟩) n c)(ey:ev ρ y=w)(hc:Cov e d B)(hw:AM e w l)(hg:∀g∈B,g∈L)(hi:L[i]?=some (bx b T ls))(hn:o+n≤ls.length)
  (h:gws P pan Qn s Ls (put ρ t (vZ ((min l.length n:Nat):Int))) d (L.set i (bx b T (patch ls o ((l.take n).map AA))))):gws P pan Qn (.op false ⟨t,none,.mop (.cpy 1 x y)⟩ s) Ls ρ d L:=by
 obtain⟨a,c',rfl⟩:=RSl.val hw
 obtain⟨k1,k2⟩:=WT (Lk:=Ls++L++L) hc (fun g q=>Ady _ (hg g q)) hw
 refine⟨d,L,Vs.refl d L,?_⟩
 simp only[gop,gi,mi]
 refine⟨_,n,c,a,l.length,c',(l.take n).map AA,ex,ey,by simp[Nat.min_comm],CM _,fun e=>by rw[k1 e];simp,fun a' ha j u hu=>k2 a' ha j u ?_,.inr ⟨i,b,o,T,ls,rfl,hi,by simp;omega,d,_,Vs.refl d _,h⟩⟩
 rw[Afq,List.getElem?_take] at hu
 rw[Afq]
 split at hu
 ·exact hu
 ·cases hu
def QR{α}{sz n:Nat}{R}{xs:List α}{x y v kk d2}{j:Int}(ex:ev ρ x=v)(hr:RSl sz R d2 v xs)(ey:ev ρ y=.int kk j)(hj:j=(n:Int))(hn:n≤xs.length)(k:∀v',RSl sz R d2 v' (xs.drop n)→gws P pan Qn s Ls (upd ρ t v') d L):
  gws P pan Qn (.op tk ⟨some t,none,.sl sz x (some y) none none⟩ s) Ls ρ d L:=by
 subst hj
 have hr':=hr
 obtain⟨a,c,b,o,rfl,h2,h3,h4,h5,h6,h7,h8⟩:=hr
 have hc:D3 xs.length c (some (ev ρ y)) none none=some (n,xs.length,c):=by
  simp only[D3,Hf,GH,Hb,Option.isSome_none,Adk,if_false,Option.bind_some,ey,bnd];rw[if_pos (by omega)];simp
 refine w_q rfl ⟨a,xs.length,c,n,xs.length,c,ex,fun(h0:c≠n)=>h3 (by omega),hc,rfl⟩ (k _ ?_)
 have:=hr'.cut (l:=n) (h:=xs.length) (m:=c) (by omega) (by omega) (Adi c) (Adi _)
 rwa [List.take_of_length_le (by simp)] at this
end
attribute [local irreducible] gwp gws xwp
def MG(P:Program)(f:FuncId):Prop:=∀{d s dv pv bv L b B},Pg d s dv pv L→RB d B bv b→b.length≤16384→
 Av P f [pv,bv] d (B++L) (Ret fun r d' L'=>Le d d'∧r=.tuple #[vZ (Cd s b).2.1,vZ (Cd s b).2.2]∧∃L2,L'=B++L2∧Pg d' (Cd s b).1 dv pv L2)
set_option maxRecDepth 4000 in
set_option maxHeartbeats 1000000 in
def YN{P f f1 f2 f3}(hd:dec P f=some (TL f1 f2 f3))(h1:FO P f1)(h2:Qv P f2)(h3:O8 P f3):MG P f:=by
 intro d s dv pv bv L b B hp hb hbl;obtain⟨va,vc,rfl⟩:=hb.val;obtain⟨eh,hcv,hb⟩:=hb;obtain⟨bp,rfl⟩:=hp.ptr;have hpn:1≤AQ b.length∧AQ b.length≤8192:=by unfold AQ;omega
 refine AF hd (Ada rfl) ?_;show gwp P _ _ _ _ _;(refine Ad<|Ab rfl<|Ab rfl<|Aa<|Af<|Ad<|Al rfl<|AK rfl<|BW rfl rfl<|Aa<|Ar rfl (by omega)<|Ak<|Ad<|Am rfl<|Al rfl<|AK rfl ?_);refine Bl rfl (h1 (n:=b.length) (by omega)) (fun u d1 L1 _ ⟨e1,e2,e3⟩=>?_);subst e1;subst e2;subst e3;rw[Ael];refine A7 B (h2 hp hpn.2) rfl rfl (fun u d2 L2 hl2 ⟨_,v,e1,hv,hp2⟩=>?_);subst e1;by_cases hz:(BC s (AQ b.length)).2.2=0
 ·have hF:Cd s b=(DH (BC s (AQ b.length)).1 (BC s (AQ b.length)).2.1 b (BC s (AQ b.length)).2.1.length,(BC s (AQ b.length)).2.1.getD 0 0,0):=by unfold Cd;simp only[hz,if_true]
  rw[hF,hz];have hlen:=Xv hz;generalize (BC s (AQ b.length)).2.1=l at hv hlen;generalize (BC s (AQ b.length)).1=t at hp2;have hll:=hv.B3;(refine AU rfl<|Ao rfl rfl<|Ao rfl rfl<|AJ<|Ab rfl<|Aa<|Af<|Ad<|Ab rfl<|AN rfl rfl<|Aa<|Ar rfl (by omega)<|Ak<|Af<|Ad<|AJ<|BL rfl (by assumption)<|Ab rfl<|Aa<|Ay ?_);refine CB (α:=Nat) (fun i=>[(0,pZ bp),(1,.slice va b.length vc),(6,v),(26,v),(27,vZ l.length),(28,vZ i)])
   (fun i d' L'=>Le d2 d'∧i≤l.length∧∃L3,L'=B++L3∧Pg d' (DH t l b i) dv (pZ bp) L3) (fun i=>l.length - i) 0 ⟨rfl,rfl,rfl,rfl,rfl,rfl,trivial⟩ ⟨Le.refl _,Aej _,L2,rfl,hp2⟩ ?_
  rintro i ρ d' L' ⟨hle,hi,L3,rfl,hp'⟩;have hv':=RSl.mono (R:=Bb) B2 hv hle;have hcv':=hcv.mono (hl2.trans hle);by_cases e:i<l.length
  ·have him:i*254≤b.length:=Q3 (by omega);by_cases en:i+1<l.length
   ·have hput:DH t l b (i+1)=((DH t l b i).put l[i] (Eg l[i+1] (Cr b i))).1:=by
     rw[DH,show l.getD i 0=l[i] by rw[Adh,Ade e];rfl,show l.getD (i+1) 65535=l[i+1] by rw[Adh,Ade en];rfl]
    (refine Ad<|AE rfl rfl<|Aa<|Af<|Ax rfl (by omega)<|Ak<|Af<|Ay<|Ad<|Ab rfl<|BM (sz:=1) (R:=Bb) (by rfl) (by assumption) (by rfl) rfl (by omega) ?_;rintro _ _ _ _ _ ⟨rfl,_,_⟩;refine Ag rfl (B4 (by assumption) rfl)<|Ab rfl<|Ab rfl<|Aa<|Ad<|Ab rfl<|Aa<|Af<|Ad<|Ab rfl<|AL rfl rfl (by omega) (by omega)<|AJ<|BL rfl (by assumption)<|AE rfl rfl<|Aa<|Ax rfl (by omega)<|AB<|AJ<|Ab rfl<|AL rfl rfl (by omega) (by omega)<|BM (sz:=1) (R:=Bb) (by rfl) (by assumption) (by rfl) rfl (by omega) ?_;rintro _ _ _ _ _ ⟨rfl,_,_⟩;refine Ag rfl (B4 (by assumption) rfl)<|Ab rfl<|Aa<|Ad<|B0 (fun _ _=>Aa<|Ad<|Ab rfl<|JG rfl rfl (by decide)<|EE rfl<|Ab rfl<|EE rfl ?_));rename_i b11 T11;refine O1 0 rfl rfl rfl (by omega) ?_;refine A6 0 (patch C0 0 [AA (UInt8.ofNat (l[i+1] / 256 % 256).toNat)]) rfl rfl rfl rfl (by rw[Dr];decide) rfl rfl ?_;have hl1:(patch C0 0 [AA (UInt8.ofNat (l[i+1] / 256 % 256).toNat)]).length=256:=by rw[By (by rw[Dr];simp)];exact Dr
    refine O1 1 rfl rfl rfl (by omega) ?_;refine A6 0 (patch (patch C0 0 [AA (UInt8.ofNat (l[i+1] / 256 % 256).toNat)]) 1 [AA (UInt8.ofNat (l[i+1] % 256).toNat)]) rfl rfl rfl rfl (by rw[hl1];decide) rfl rfl ?_;have hl2':(patch (patch C0 0 [AA (UInt8.ofNat (l[i+1] / 256 % 256).toNat)]) 1 [AA (UInt8.ofNat (l[i+1] % 256).toNat)]).length=256:=by rw[By (by rw[hl1];simp)];exact hl1
    (refine Aa<|Af ?_);refine Bv [] (bx b11 T11 (patch (patch C0 0 [AA (UInt8.ofNat (l[i+1] / 256 % 256).toNat)]) 1 [AA (UInt8.ofNat (l[i+1] % 256).toNat)])::(B++L3)) rfl ?_;refine Rg 2 rfl rfl (by omega) ?_;(refine Al rfl<|Ab rfl<|M4 rfl rfl (by omega) (by omega) ?_);refine QR (R:=AP) (sz:=1) (n:=i*254) rfl hb rfl (by omega) him (fun w hw=>?_);refine XQ (i:=0) rfl rfl hcv' hw (fun g q=>Adp _ (Adw _ q)) rfl (by rw[hl2'];omega) ?_;have hpp:=OI (UInt8.ofNat (l[i+1] / 256 % 256).toNat) (UInt8.ofNat (l[i+1] % 256).toNat) (c:=Cr b i) (by unfold Cr;rw[Adz];omega);(refine Aa<|AB<|Am rfl<|Ab rfl ?_);refine Su rfl (by omega) ?_;have hpl:(Eg l[i+1] (Cr b i)).length=256:=by
     have:(Cr b i).length≤254:=by unfold Cr;rw[Adz];omega
     unfold Eg;simp only[Adm,Adj,Aet];omega
    refine B9 (join d' (bx b11 T11 (patch (patch (patch C0 0 [AA (UInt8.ofNat (l[i+1] / 256 % 256).toNat)]) 1 [AA (UInt8.ofNat (l[i+1] % 256).toNat)]) 2 ((Cr b i).map AA)))) (B++L3) Vs.freeze ?_;have hlj:Le d' (join d' (bx b11 T11 (patch (patch (patch C0 0 [AA (UInt8.ofNat (l[i+1] / 256 % 256).toNat)]) 1 [AA (UInt8.ofNat (l[i+1] % 256).toNat)]) 2 ((Cr b i).map AA)))):=Le.AG _ _;have hB:AM (join d' (bx b11 T11 (patch (patch (patch C0 0 [AA (UInt8.ofNat (l[i+1] / 256 % 256).toNat)]) 1 [AA (UInt8.ofNat (l[i+1] % 256).toNat)]) 2 ((Cr b i).map AA)))) (.slice (some ⟨b11,0,none⟩) 256 256) (Eg l[i+1] (Cr b i)):=
     Ap.rsl (R:=AP) (sz:=1) (Ap.Y0 (d:=d') hpp hpl.symm (Agx (Nat.le_of_eq hpl) (by decide))) A3 (by omega) (Le.AG _ _) (Le.Ba _ _)
    refine A7 B (h3 (k:=l[i]) (hp'.mono hlj) hB) rfl rfl (fun u d5 L5 hl5 ⟨q1,hp5⟩=>?_);(refine Aa<|AB<|AL rfl rfl (by omega) (by omega)<|Ab rfl<|Aa ?_);exact⟨i+1,by omega,⟨rfl,rfl,rfl,rfl,rfl,rfl,trivial⟩,(hle.trans hlj).trans hl5,e,L5,rfl,by rw[hput];exact hp5⟩
   ·have hput:DH t l b (i+1)=((DH t l b i).put l[i] (Eg (65535:Int) (Cr b i))).1:=by
     rw[DH,show l.getD i 0=l[i] by rw[Adh,Ade e];rfl,show l.getD (i+1) 65535=(65535:Int) by rw[Adh,List.getElem?_eq_none (by omega)];rfl]
    (refine Ad<|AE rfl rfl<|Aa<|Af<|Ax rfl (by omega)<|Ak<|Af<|Ay<|Ad<|Ab rfl<|BM (sz:=1) (R:=Bb) (by rfl) (by assumption) (by rfl) rfl (by omega) ?_;rintro _ _ _ _ _ ⟨rfl,_,_⟩;refine Ag rfl (B4 (by assumption) rfl)<|Ab rfl<|Ab rfl<|Aa<|Ad<|Ab rfl<|Aa<|Af<|Ad<|Ab rfl<|AL rfl rfl (by omega) (by omega)<|AJ<|BL rfl (by assumption)<|AE rfl rfl<|Aa<|Ar rfl (by omega)<|Ak<|Ad<|B0 (fun _ _=>Aa<|Ad<|Ab rfl<|JG rfl rfl (by decide)<|EE rfl<|Ab rfl<|EE rfl ?_));rename_i b11 T11;refine O1 0 rfl rfl rfl (by omega) ?_;refine A6 0 (patch C0 0 [AA (UInt8.ofNat ((65535:Int) / 256 % 256).toNat)]) rfl rfl rfl rfl (by rw[Dr];decide) rfl rfl ?_;have hl1:(patch C0 0 [AA (UInt8.ofNat ((65535:Int) / 256 % 256).toNat)]).length=256:=by rw[By (by rw[Dr];simp)];exact Dr
    refine O1 1 rfl rfl rfl (by omega) ?_;refine A6 0 (patch (patch C0 0 [AA (UInt8.ofNat ((65535:Int) / 256 % 256).toNat)]) 1 [AA (UInt8.ofNat ((65535:Int) % 256).toNat)]) rfl rfl rfl rfl (by rw[hl1];decide) rfl rfl ?_;have hl2':(patch (patch C0 0 [AA (UInt8.ofNat ((65535:Int) / 256 % 256).toNat)]) 1 [AA (UInt8.ofNat ((65535:Int) % 256).toNat)]).length=256:=by rw[By (by rw[hl1];simp)];exact hl1
    (refine Aa<|Af ?_);refine Bv [] (bx b11 T11 (patch (patch C0 0 [AA (UInt8.ofNat ((65535:Int) / 256 % 256).toNat)]) 1 [AA (UInt8.ofNat ((65535:Int) % 256).toNat)])::(B++L3)) rfl ?_;refine Rg 2 rfl rfl (by omega) ?_;(refine Al rfl<|Ab rfl<|M4 rfl rfl (by omega) (by omega) ?_);refine QR (R:=AP) (sz:=1) (n:=i*254) rfl hb rfl (by omega) him (fun w hw=>?_);refine XQ (i:=0) rfl rfl hcv' hw (fun g q=>Adp _ (Adw _ q)) rfl (by rw[hl2'];omega) ?_;have hpp:=OI (UInt8.ofNat ((65535:Int) / 256 % 256).toNat) (UInt8.ofNat ((65535:Int) % 256).toNat) (c:=Cr b i) (by unfold Cr;rw[Adz];omega);(refine Aa<|AB<|Am rfl<|Ab rfl ?_);refine Su rfl (by omega) ?_;have hpl:(Eg (65535:Int) (Cr b i)).length=256:=by
     have:(Cr b i).length≤254:=by unfold Cr;rw[Adz];omega
     unfold Eg;simp only[Adm,Adj,Aet];omega
    refine B9 (join d' (bx b11 T11 (patch (patch (patch C0 0 [AA (UInt8.ofNat ((65535:Int) / 256 % 256).toNat)]) 1 [AA (UInt8.ofNat ((65535:Int) % 256).toNat)]) 2 ((Cr b i).map AA)))) (B++L3) Vs.freeze ?_;have hlj:Le d' (join d' (bx b11 T11 (patch (patch (patch C0 0 [AA (UInt8.ofNat ((65535:Int) / 256 % 256).toNat)]) 1 [AA (UInt8.ofNat ((65535:Int) % 256).toNat)]) 2 ((Cr b i).map AA)))):=Le.AG _ _;have hB:AM (join d' (bx b11 T11 (patch (patch (patch C0 0 [AA (UInt8.ofNat ((65535:Int) / 256 % 256).toNat)]) 1 [AA (UInt8.ofNat ((65535:Int) % 256).toNat)]) 2 ((Cr b i).map AA)))) (.slice (some ⟨b11,0,none⟩) 256 256) (Eg (65535:Int) (Cr b i)):=
     Ap.rsl (R:=AP) (sz:=1) (Ap.Y0 (d:=d') hpp hpl.symm (Agx (Nat.le_of_eq hpl) (by decide))) A3 (by omega) (Le.AG _ _) (Le.Ba _ _)
    refine A7 B (h3 (k:=l[i]) (hp'.mono hlj) hB) rfl rfl (fun u d5 L5 hl5 ⟨q1,hp5⟩=>?_);(refine Aa<|AB<|AL rfl rfl (by omega) (by omega)<|Ab rfl<|Aa ?_);exact⟨i+1,by omega,⟨rfl,rfl,rfl,rfl,rfl,rfl,trivial⟩,(hle.trans hlj).trans hl5,e,L5,rfl,by rw[hput];exact hp5⟩
  ·have:i=l.length:=by omega
   subst this;have h0:0<l.length:=by omega
   have hg0:l.getD 0 0=l[0]:=by rw[Adh,Ade h0];rfl
   rw[hg0];(refine Ad<|AE rfl rfl<|Aa<|Af<|Ar rfl (by omega)<|Bg<|Ad<|AJ<|BM (sz:=1) (R:=Bb) (by rfl) (by assumption) (by rfl) rfl (by omega) ?_;rintro _ _ _ _ _ ⟨rfl,_,_⟩;refine Ag rfl (B4 (by assumption) rfl)<|Ab rfl<|Ab rfl<|Aa<|An ?_);exact CO rfl rfl (Adb _) ⟨hl2.trans hle,rfl,L3,rfl,hp'⟩
 ·have hF:Cd s b=((BC s (AQ b.length)).1,0,(BC s (AQ b.length)).2.2):=by unfold Cd;simp only[hz,if_false]
  rw[hF];(refine AU rfl<|Ao rfl rfl<|Ao rfl rfl<|AJ<|Ab rfl<|Aa<|Af<|Ad<|Ab rfl<|AN rfl rfl<|Aa<|Ax rfl (by omega)<|Ad<|Ab rfl<|Ab rfl<|Ab rfl<|Aa<|An ?_);exact CO rfl rfl (Adb _) ⟨hl2,rfl,L2,rfl,hp2⟩
end
end Go.Gk.Chn
end
section
namespace Go.Gk.Tre
open Go Go.Gk Go.Gk.Dev Go.Gk.Cch Go.Gk.Pgr Go.Gk.Chn Go.Gk.Node
attribute [local irreducible] gwp gws xwp
def Ab1{P f}(h:MG P f){d s dv pv w L b B}(hp:PgT d s dv pv L)(hb:RB d B w b)(hl:b.length≤16384):
  Av P f [pv,w] d (B++L) (Ret fun r d' L'=>Le d d'∧r=.tuple #[vZ (Cd s b).2.1,vZ (Cd s b).2.2]∧∃L2,L'=B++L2∧PgT d' (Cd s b).1 dv pv L2):=by
 obtain⟨n,hp⟩:=hp
 refine Av.DL (h hp hb hl) (fun r d' L' _ ⟨h0,h1,L2,h2,h3⟩=>⟨d',L',Vs.refl _ _,h0,?_,L2,h2,n,?_⟩)
 ·rw[h1];rw[show Cd (wtc s n) b=(wtc (Cd s b).1 n,(Cd s b).2) from S5]
 ·rw[show Cd (wtc s n) b=(wtc (Cd s b).1 n,(Cd s b).2) from S5] at h3
  exact h3
def J4(P:Program)(f:FuncId):Prop:=∀{d s dv pv w L}{bt:Nat}{Tt}{r h c:Int}{b B},PgT d s dv pv L→RB d B w b→b.length≤16384→
 Av P f [pZ bt,w] d (tb bt Tt pv r h c::(B++L)) (Ret fun v d' L'=>Le d d'∧∃u L2,v=.tuple #[u,vZ (BZ s b).2.2]∧L'=tb bt Tt pv r h c::(B++L2)∧AM d' u (BZ s b).2.1∧PgT d' (BZ s b).1 dv pv L2)
set_option maxRecDepth 4000 in
def XE{P f f1}(hd:dec P f=some (N3 f1))(h1:MG P f1):J4 P f:=by
 intro d s dv pv w L bt Tt r h c b B hp hw hbl;obtain⟨bp,rfl⟩:=hp.ptr;obtain⟨wa,wc,rfl⟩:=hw.val;refine AF hd (Ada rfl) ?_;show gwp P _ _ _ _ _;by_cases h15:b.length≤15
 ·have hF:BZ s b=(s,0::b,0):=by unfold BZ;rw[if_pos h15]
  rw[hF];(refine Ad<|Al rfl<|Ab rfl<|Aa<|Af<|Ad<|Al rfl<|AK rfl<|O3 rfl rfl<|Aa<|Ax rfl (by omega)<|Ad ?_);refine D5 (v0:=.int .u8 0) rfl rfl (fun b3 T3=>?_);(apply Al;rfl);refine PW (R:=AP) (sz:=1) (xs:=[0]) A3 rfl (Ap.Ep (x:=(0:UInt8)) rfl rfl) rfl (hw.src (fun g q=>by simp[q])) (by omega) (by simp;omega) (by simp;omega) (fun a c' d' hl hu=>?_);(refine Al rfl<|Ab rfl<|Aa<|An ?_);exact CO rfl rfl (Adb _) ⟨hl,_,L,rfl,rfl,hu,hp.mono hl⟩
 ·have hF:BZ s b=((Cd s b).1,Gu (Cd s b).2.1 b.length,(Cd s b).2.2):=by unfold BZ;rw[if_neg h15]
  rw[hF];(refine Ad<|Al rfl<|Ab rfl<|Aa<|Af<|Ad<|Al rfl<|AK rfl<|O3 rfl rfl<|Aa<|Ar rfl (by omega)<|Ak<|Ad<|Am rfl<|Au rfl<|Ai rfl<|Ag rfl (Aj 0 rfl rfl)<|Al rfl ?_);refine A7 [_] (Ab1 h1 hp hw hbl) rfl rfl (fun v d2 L2' hl ⟨_,e1,L2,e2,hp2⟩=>?_);subst e1;subst e2;have hrg:=ZJ (b:=b) hp.Fm;(refine AU rfl<|Ao rfl rfl<|Ao rfl rfl<|Ab rfl<|Ab rfl<|Aa<|Ad<|Al rfl<|AK rfl<|Ab rfl<|Aa<|Ad<|Ab rfl<|JG rfl rfl (by decide)<|EE rfl<|Ab rfl<|EE rfl<|Ab rfl ?_);refine XC 24 ((b.length:Int) / 16777216) rfl rfl (by omega) (by omega) rfl ?_;(refine EE rfl<|Ab rfl ?_);refine XC 16 ((b.length:Int) / 65536) rfl rfl (by omega) (by omega) rfl ?_;(refine EE rfl<|Ab rfl<|JG rfl rfl (by decide)<|EE rfl<|Ab rfl<|EE rfl ?_);refine AbK (a0:=1) (a1:=bI ((Cd s b).2.1 / 256)) (a2:=bI (Cd s b).2.1) (a3:=bI ((b.length:Int) / 16777216)) (a4:=bI ((b.length:Int) / 65536)) (a5:=bI ((b.length:Int) / 256)) (a6:=bI b.length) rfl rfl rfl rfl rfl rfl rfl (fun b9 T9=>?_);(refine Ab rfl<|Al rfl<|Ab rfl<|Aa<|An ?_);exact Bd [.slice (some ⟨b9,0,none⟩) 7 7,vZ (Cd s b).2.2] ⟨As rfl,As rfl,trivial⟩ (d':=join d2 (bx b9 T9 ((Gu (Cd s b).2.1 b.length).map AA))) (L':=tb bt Tt (pZ bp) r h c::(B++L2)) Vs.freeze
   ⟨hl.trans (Le.AG _ _),_,L2,rfl,rfl,Ap.rsl (R:=AP) (sz:=1) (d:=d2) (Ap.Y0 rfl rfl (by simp[Gu])) A3 (by omega) (Le.AG _ _) (Le.Ba _ _),hp2.mono (Le.AG _ _)⟩
end Go.Gk.Tre
end
