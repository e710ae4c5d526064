/-
  Our own texts, one behind the other: Gk13 Gk14 Gk15 Gk39 Gk16 Gk17 Gk18 Gk23 Gk30 Gk31 Gk24 GkE0 GkE1 GkC0 GkC4 GkPg0 GkE2 GkC1 GkC2 GkC3 GkCl.
-/
import Derived.Test.YtpkcbopokjffhaaGreatPnB
open Nat renaming le_of_ble_eq_true→Aca,le_refl→Ach,zero_le→Adg,mul_le_mul_right→Adu,zero_add→Aeh,mul_one→Aem,add_mul→Aer,mod_eq_of_lt→Afd,not_lt_zero→Afm,mod_lt→Afn,sub_self→Afy,le_trans→Agk,one_mul→Agn
open List.Sublist renaming refl→Acb,cons_cons→Aeo
open Bool renaming and_eq_true→Acd,false_eq_true→Aci
open List renaming getElem?_eq_getElem→Ace,getD_eq_getElem?_getD→Acf,append_assoc→Acg,mem_append→Acj,perm_append_comm→Ack,length_append→Acl,eq_nil_of_length_eq_zero→Acm,length_drop→Acn,getElem?_eq_some_iff→Acp,all_eq_true→Acq,replicate→Acr,length_cons→Acs,mem_cons_self→Acu,mem_singleton→Acv,length_take→Acw,take_succ_eq_append_getElem→Acx,mem_cons_of_mem→Acy,sublist_cons_self→Acz,getElem_mem→Ada,mem_cons→Adb,range→Ade,length_set→Adf,mem_append_left→Adh,drop_eq_getElem_cons→Adi,length_replicate→Adn,getElem?_eq_none→Adq,nil_append→Adr,append_nil→Ads,getElem?_take_of_lt→Adt,length_map→Adw,getElem?_drop→Aea,getElem?_append_right→Aeb,take_of_length_le→Aed,getElem?_append_left→Aee,take_length→Aeg,getElem_of_mem→Aei,cons_append→Aej,getElem?_take→Aek,length_nil→Aen,getElem?_map→Aep,getD_cons_succ→Aeu,mem_of_getElem?→Aew,drop_of_length_le→Aex,getD_cons_zero→Aey,take_append_of_le_length→Afe,ext_getElem?→Afg,set_eq_of_length_le→Afh,nodup_append→Afi,map_cons→Afj,map_append→Afk,mem_range→Afq,nodup_cons→Afr,drop_length→Afv,getD→Afw,getElem?_cons_zero→Afx,set_cons_succ→Agb,getElem_append_right→Agd,sublist_append_left→Agg,getElem_append_left→Agi,mem_map→Agl,getElem?_cons_succ→Agm,drop_append_of_le_length→Ago,drop_left→Agp,nodup_nil→Agq,foldl_cons→Ags,all_cons→Agy,take_left→Ahc,ext_getElem→Ahd,drop_append→Ahf,pairwise_cons→Ahi,set_eq_take_append_cons_drop→Ahj,map_drop→Ahl,map_take→Ahm
open List.Perm renaming cons→Aco,swap→Adc,append_right→Afb
open Option renaming bind_some→Adz,map_some→Aeq,getD_some→Afo,isSome_none→Agr
open Int renaming toNat_natCast→Agh
section
namespace Go.Gk
open Go
section
def chunk(cs:List Value) (i sz:Nat):List Value:=(cs.drop (i*sz)).take sz
def Aq{α:Type} (sz:Nat) (R:Ac→List Value→α→Prop) (d:Ac) (v:Value) (xs:List α) (h:Ac):Prop:=
 ∃cs,BK sz v xs.length cs h∧∀i (hi:i<xs.length),R d (chunk cs i sz) xs[i]
def Src{α:Type} (sz:Nat) (R:Ac→List Value→α→Prop) (d:Ac) (Lk:List Ac) (w:Value) (ys:List α):Prop:=
 ∃news,RdX d Lk w ys.length sz news∧(news.all (·.oneCell'))=true∧∀i (hi:i<ys.length),R d (chunk news i sz) ys[i]
def Fy{α:Type} (R:Ac→List Value→α→Prop):Prop:=∀d cs x,R d cs x→(cs.all (·.oneCell'))=true
def F3{α:Type} (R:Ac→List Value→α→Prop):Prop:=∀{d d' cs x},Le d d'→R d cs x→R d' cs x
theorem Gj:Fy AM:=fun _ _ _ h=>by cases h;rfl
theorem Dg:Fy Bg:=fun _ _ _ h=>by obtain⟨rfl,_⟩:=h;rfl
theorem WW:Fy KC:=fun _ _ _ h=>by obtain⟨rfl,_⟩:=h;rfl
theorem Fk:Fy RBs:=fun _ _ _ h=>by obtain⟨_,rfl,_,_,_,_,rfl,_⟩:=h;rfl
theorem AW:F3 AM:=fun _ h=>h
theorem B8:F3 Bg:=fun _ h=>h
theorem X8:F3 KC:=fun _ h=>h
theorem EO:F3 RBs:=fun hl ⟨u,h1,h2⟩=>⟨u,h1,h2.mono hl⟩
section
variable {α:Type}{sz:Nat}{R:Ac→List Value→α→Prop}{d:Ac}{v:Value}{xs:List α}{h:Ac}
theorem Iq{cs:List Value}{n i:Nat} (hl:cs.length=n*sz) (hi:i<n):(chunk cs i sz).length=sz:=by
 have:(i+1)*sz≤n*sz:=Adu sz hi
 rw [Aer,Agn] at this
 simp only [chunk,Acw,Acn,hl]
 omega
theorem FG{cs ds:List Value}{n i:Nat} (hl:cs.length=n*sz) (hi:i<n):chunk (cs++ds) i sz=chunk cs i sz:=by
 have:(i+1)*sz≤n*sz:=Adu sz hi
 rw [Aer,Agn] at this
 simp only [chunk]
 rw [Ago (by omega),Afe (by simp only [Acn];omega)]
theorem Fi{cs ds:List Value}{n i:Nat} (hl:cs.length=n*sz) (hi:n≤i):chunk (cs++ds) i sz=chunk ds (i - n) sz:=by
 have h1:n*sz≤i*sz:=Adu sz hi
 simp only [chunk]
 rw [Ahf,Aex (by omega),Adr,hl,Nat.sub_mul]
theorem Aq.nil:Aq sz R d (.slice none 0 0) [] emp:=⟨[],BK.nil sz,fun i hi=>absurd hi (Afm i)⟩
theorem Aq.Km{b:Nat}{T:TypeId}:Aq sz R d (.slice (some ⟨b,0,none⟩) 0 0) [] (bx b T []):=⟨[],BK.lit (by simp) (by simp),fun i hi=>absurd hi (Afm i)⟩
theorem Aq.mono(hR:F3 R) (o:Aq sz R d v xs h) {d':Ac} (hl:Le d d'):Aq sz R d' v xs h:=
 let ⟨cs,h1,h2⟩:=o
 ⟨cs,h1,fun i hi=>hR hl (h2 i hi)⟩
theorem Aq.BZ(o:Aq sz R d v xs h):xs.length≤140737488355328:=let ⟨_,h1,_⟩:=o;h1.2.1
theorem Aq.val(o:Aq sz R d v xs h):∃a c,v=.slice a xs.length c:=by
 obtain⟨cs,h1,_⟩:=o
 obtain⟨a,b,c,e,_⟩:=h1.slice
 exact⟨a,c,e⟩
theorem RSl.val(o:RSl sz R d v xs):∃a c,v=.slice a xs.length c:=let ⟨a,c,_,_,e,_⟩:=o;⟨a,c,e⟩
theorem Aq.rsl(o:Aq sz R d v xs h) (hR:F3 R) (hsz:0<sz) {d':Ac} (hl:Le d d') (hh:Le h d'):RSl sz R d' v xs:=by
 obtain⟨cs,h1,h2⟩:=o
 exact h1.rsl hh rfl hsz (fun i hi=>hR hl (h2 i hi))
theorem Aq.src(o:Aq sz R d v xs h) (hc:Fy R) {Lk:List Ac} (hk:h∈Lk):Src sz R d Lk v xs:=by
 obtain⟨cs,h1,h2⟩:=o
 refine⟨cs,h1.rdx hk,?_,h2⟩
 have hl:=h1.1
 rw [Acq]
 intro u hu
 obtain⟨j,hj,rfl⟩:=Aei hu
 by_cases h0:sz=0
 ·subst h0;simp at hl;subst hl;simp at hj
 ·have hq:j / sz<xs.length:=by rw [Nat.div_lt_iff_lt_mul (by omega)];omega
  have:=Acq.1 (hc _ _ _ (h2 _ hq)) cs[j] (by
   have hdm:=Nat.div_add_mod' j sz
   have hm:=Afn j (show 0<sz by omega)
   rw [List.mem_iff_getElem?]
   refine⟨j % sz,?_⟩
   rw [chunk,Adt hm,Aea,hdm,Ace hj])
  exact this
theorem RSl.src(o:RSl sz R d v xs) (hc:Fy R) (_:0<sz) (Lk:List Ac):Src sz R d Lk v xs:=by
 obtain⟨a,c,b,o,rfl,h2,h3,h4,h5,h6,h7,h8⟩:=o
 have key:∀n,n≤xs.length→∃news:List Value,news.length=n*sz∧(∀j u,news[j]?=some u→DC d b (o+j) u)∧(news.all (·.oneCell'))=true∧∀i (hi:i<n) (hi':i<xs.length),R d (chunk news i sz) xs[i]:=by
  intro n
  induction n with
  |zero=>exact fun _=>⟨[],by simp,fun j u hu=>by simp at hu,rfl,fun i hi=>absurd hi (Afm i)⟩
  |succ n ih=>
   intro hn
   obtain⟨news,k1,k2,k3,k4⟩:=ih (by omega)
   obtain⟨cs,m1,m2,m3⟩:=h8 n (by omega)
   refine⟨news++cs,by simp [k1,m1,Aer],fun j u hu=>?_,?_,fun i hi hi'=>?_⟩
   ·rw [List.getElem?_append] at hu
    split at hu
    ·exact k2 j u hu
    ·rename_i hj
     have:=m2.at hu
     rw [k1] at this
     rw [show o+j=o+n*sz+(j - n*sz) by omega]
     exact this
   ·rw [List.all_append,k3,hc _ _ _ m3];rfl
   ·by_cases e:i<n
    ·rw [FG k1 e];exact k4 i e hi'
    ·obtain rfl:i=n:=by omega
     rw [Fi k1 (Ach _),Afy]
     have:chunk cs 0 sz=cs:=by simp [chunk,←m1]
     rw [this];exact m3
 obtain⟨news,k1,k2,k3,k4⟩:=key xs.length (Ach _)
 refine⟨news,⟨a,c,rfl,k1,fun e=>?_,fun a' ha i u hu=>?_⟩,k3,fun i hi=>k4 i hi hi⟩
 ·cases xs with
  |nil=>exact Acm (by simpa using k1)
  |cons x xs=>have:=h2 (by simp);rw [e] at this;cases this
 ·have h0:xs.length≠0:=by
   intro h0
   rw [h0,Nat.zero_mul] at k1
   rw [Acm k1] at hu;simp at hu
  have e:=h2 h0
  rw [ha] at e;cases e
  rw [Addr.add_lit]
  exact BF (k2 i u hu)
theorem Src.lit{Lk:List Ac}{b c n:Nat}{T:TypeId}{cs:List Value}{ys:List α} (i:Nat) (hi:Lk[i]?=some (bx b T cs)) (hn:n=ys.length) (hl:cs.length=ys.length*sz) (h1:(cs.all (·.oneCell'))=true)
  (h2:∀i (hi:i<ys.length),R d (chunk cs i sz) ys[i]):Src sz R d Lk (.slice (some ⟨b,0,none⟩) n c) ys:=by
 subst hn
 exact⟨cs,RdX.lit i hi hl,h1,h2⟩
theorem Aq.lit{b n:Nat}{T:TypeId}{cs:List Value} (hn:n=xs.length) (hl:cs.length=xs.length*sz) (hx:xs.length≤140737488355328) (h2:∀i (hi:i<xs.length),R d (chunk cs i sz) xs[i]):
  Aq sz R d (.slice (some ⟨b,0,none⟩) n n) xs (bx b T cs):=by
 subst hn
 exact⟨cs,BK.lit hl hx,h2⟩
theorem Aq.Em{b:Nat}{T:TypeId}{cs:List Value}{x:α} (hl:cs.length=sz) (h2:R d cs x):Aq sz R d (.slice (some ⟨b,0,none⟩) 1 1) [x] (bx b T cs):=
 Aq.lit rfl (by simp [hl]) (by simp) (fun i hi=>by
  obtain rfl:i=0:=by simpa using hi
  have:chunk cs 0 sz=cs:=by simp [chunk,←hl]
  rw [this];exact h2)
end
theorem Aq.Ym{d:Ac}{b n:Nat}{T:TypeId}{cs:List Value}{l:List UInt8} (e:cs=l.map Ay) (hn:n=l.length) (hx:l.length≤140737488355328):Aq 1 AM d (.slice (some ⟨b,0,none⟩) n n) l (bx b T cs):=by
 subst e
 refine Aq.lit hn (by simp) hx (fun i hi=>?_)
 simp only [AM,chunk,Aem,←Ahl,←Ahm]
 rw [Adi hi];rfl
theorem Aq.AbC{d:Ac}{b n:Nat}{T:TypeId}{cs:List Value}{l:List Int} (e:cs=l.map (Value.int .i64)) (hb:∀x∈l, -9223372036854775808≤x∧x≤9223372036854775807) (hn:n=l.length) (hx:l.length≤140737488355328):Aq 1 Bg d (.slice (some ⟨b,0,none⟩) n n) l (bx b T cs):=by
 subst e
 refine Aq.lit hn (by simp) hx (fun i hi=>?_)
 simp only [Bg,chunk,Aem,←Ahl,←Ahm]
 rw [Adi hi];exact⟨rfl,hb _ (Ada hi)⟩
theorem Aq.bytes{d:Ac}{v:Value}{xs:List UInt8}{h:Ac} (o:Aq 1 AM d v xs h):BK 1 v xs.length (xs.map Ay) h:=by
 obtain⟨cs,h1,h2⟩:=o
 have hl:=h1.1
 have:cs=xs.map Ay:=by
  apply Ahd
  ·simp at hl⊢;exact hl
  ·intro i h3 h4
   have h5:i<xs.length:=by simpa using h4
   have h6:chunk cs i 1=[Ay xs[i]]:=h2 i h5
   simp only [chunk,Aem] at h6
   have h7:=congrArg (·[0]?) h6
   simp only [Adt (show 0<1 by omega),Aea,Nat.add_zero,Ace h3,Afx,Option.some.injEq] at h7
   simp [h7]
 rw [←this];exact h1
section
variable {P:Program}{pan:List PanicEntry→AR}{Qn:Env→AR}{Ls L:List Ac}{ρ:Env}{d:Ac}{s:GS}{t:Nat}{tk:Bool}
theorem ER{α:Type}{sz by_:Nat}{R:Ac→List Value→α→Prop}{z:List Value}{x y:Operand} (i:Nat) {v w:Value}{xs ys:List α}{h:Ac} (ex:ev ρ x=v) (hi:L[i]?=some h) (ho:Aq sz R d v xs h)
  (ey:ev ρ y=w) (hs:Src sz R d (Ls++L++L) w ys) (hsz:0<sz) (hm:xs.length+ys.length≤140737488355328) (hb:(xs.length+ys.length)*by_≤140737488355328)
  (k:∀v' h',Aq sz R d v' (xs++ys) h'→gws P pan Qn s Ls (upd ρ t v') d (L.set i h')):gws P pan Qn (.op false ⟨some t,none,.app sz by_ z x y⟩ s) Ls ρ d L:=by
 obtain⟨cs,h1,h2⟩:=ho
 obtain⟨news,k1,k2,k3⟩:=hs
 have hl:=h1.1
 refine Abo i ex hi h1 ey k1 k2 hsz hm hb (fun v' h' o=>k v' h' ⟨cs++news,by rw [Acl];exact o,fun j hj=>?_⟩)
 by_cases e:j<xs.length
 ·rw [FG hl e,Agi e];exact h2 j e
 ·rw [Fi hl (by omega),Agd (by omega)]
  exact k3 _ (by simp at hj;omega)
theorem D9{α:Type}{sz by_:Nat}{R:Ac→List Value→α→Prop}{z:List Value}{x y:Operand} (i:Nat) {v w:Value}{xs ys:List α}{h g:Ac} (ex:ev ρ x=v) (hi:L[i]?=some h) (ho:Aq sz R d v xs h)
  (ey:ev ρ y=w) (hs:Aq sz R d w ys g) (hc:Fy R) (hsz:0<sz) (hm:xs.length+ys.length≤140737488355328) (hb:(xs.length+ys.length)*by_≤140737488355328)
  (k:∀v' h',Aq sz R d v' (xs++ys) h'→gws P pan Qn s Ls (upd ρ t v') d (L.set i h')):gws P pan Qn (.op false ⟨some t,none,.app sz by_ z x y⟩ s) Ls ρ d (g::L):=by
 obtain⟨cs,h1,h2⟩:=ho
 obtain⟨news,k1,k2,k3⟩:=(hs.src hc (by simp):Src sz R d (Ls++(g::L)++(g::L)) w ys)
 have hl:=h1.1
 refine OG (i+1) ex (by simpa using hi) h1 ey k1 k2 hsz hm hb (fun v' h' o=>⟨d,L.set i h',?_,k v' h' ⟨cs++news,by rw [Acl];exact o,fun j hj=>?_⟩⟩)
 ·rw [Agb]
  exact Vs.drop (Acz _ _)
 ·by_cases e:j<xs.length
  ·rw [FG hl e,Agi e];exact h2 j e
  ·rw [Fi hl (by omega),Agd (by omega)]
   exact k3 _ (by simp at hj;omega)
theorem VE{α:Type}{sz:Nat}{R:Ac→List Value→α→Prop}{x:Operand}{v:Value}{xs:List α}{h:Ac} (ex:ev ρ x=v) (hr:Aq sz R d v xs h) (k:gws P pan Qn s Ls (upd ρ t (.int .i64 xs.length)) d L):
  gws P pan Qn (.op tk ⟨some t,none,.len x⟩ s) Ls ρ d L:=by
 obtain⟨a,c,rfl⟩:=hr.val
 exact AN ex k
theorem BL{α:Type}{sz:Nat}{R:Ac→List Value→α→Prop}{x i:Operand}{v:Value}{xs:List α}{k:IntKind}{j:Int}{m:Nat} (ex:ev ρ x=v) (hr:RSl sz R d v xs) (ei:ev ρ i=.int k j) (hm:j=(m:Int)) (hl:m<xs.length)
  (h:∀b o cs,cs.length=sz→DCs d b o cs→R d cs xs[m]→gws P pan Qn s Ls (upd ρ t (.pointer (some ⟨b,o,none⟩))) d L):gws P pan Qn (.op tk ⟨some t,none,.idx sz x i⟩ s) Ls ρ d L:=by
 obtain⟨a,c,b,o,rfl,h2,h3,h4,h5,h6,h7,h8⟩:=hr
 obtain⟨cs,k1,k2,k3⟩:=h8 m hl
 exact BA m ex ei hm hl h2 (h b _ cs k1 k2 k3)
end
section
variable {P:Program}{Q:B2}{ρ:Env}{d:Ac}{L:List Ac}
theorem ZS{α:Type}{a:Ck} (slots:α→Value→List (Nat×Value)) (inv:α→Value→Ac→Ac→List Ac→Prop) (meas:α→Nat) (x0:α) (v0:Value) (h0:Ac) (hs:BD ρ (slots x0 v0)) (i0:inv x0 v0 h0 d L)
  (round:∀x v h ρ d L,inv x v h d L→gwp P a {Q with n:=fun ρ d L=>∃x' v' h',meas x'<meas x∧BD ρ (slots x' v')∧inv x' v' h' d L} (IH ρ (slots x v)) d L):gwp P (.loop a) Q ρ d L:=
 CL (α:=α×Value×Ac) (fun x=>slots x.1 x.2.1) (fun x d L=>inv x.1 x.2.1 x.2.2 d L) (fun x=>meas x.1) (x0,v0,h0) hs i0
  (fun x ρ d L hi=>Nz (fun _ _ _ ⟨x',v',h',a,b,c⟩=>⟨(x',v',h'),a,b,c⟩) (round x.1 x.2.1 x.2.2 ρ d L hi))
end
section
variable {P:Program}{pan:List PanicEntry→AR}{Qn:Env→AR}{Ls L:List Ac}{ρ:Env}{d:Ac}{s t:GS}{g:GOp}
theorem Es(h1:gws P pan Qn (.op false g s) Ls ρ d L) (h2:gws P pan Qn t Ls ρ d L):gws P pan Qn (.alt g s t) Ls ρ d L:=⟨h1,h2⟩
theorem Aam(is:List Nat) (hp:is.isPerm (Ade L.length)=true) (h:gws P pan Qn (.op false g s) Ls ρ d (pick L is)):gws P pan Qn (.op false g s) Ls ρ d L:=Cd d _ (Vs.pick is hp) h
theorem FF(h:∃d1 L1,Vs d L d1 L1∧Qn ρ d1 L1):gws P pan Qn .done [] ρ d L:=h
theorem Av{C:Addr→Value→Prop}{t:Nat}{v:Value} (e:ρ t=v):KF ρ C (.tmp t) v:=e.symm
theorem AT{t n b:Nat}{T:TypeId}{l:List Value} (i:Nat) (e:ρ t=.pointer (some ⟨b,0,none⟩)) (hi:L[i]?=some (bx b T l)) (hn:l.length=n):KF ρ (HC d L) (.cell t (some n)) (.agg l.toArray):=
 ⟨b,0,l,e,hn,fun j u hu=>by rw [Aeh];exact Aj i hi hu,rfl⟩
theorem Aaq{res:List F5}{R:Ending→Ac→List Ac→Prop} (vs:List Value) (hr:GA ρ (HC d L) res vs) (h:∀d',Le d d'→(∀k∈L,Le k d')→R (.returned (Jm vs)) d' []):Cy res R ρ d L:=
 let ⟨d',h1,h2,h3⟩:=Vs.H3 d L
 ⟨vs,hr,d',[],h1,h d' h2 h3⟩
theorem EF{res:List F5}{R:Ending→Ac→List Ac→Prop} (vs:List Value) {L':List Ac} (hr:GA ρ (HC d L) res vs) (hs:L'.Sublist L) (h:R (.returned (Jm vs)) d L'):Cy res R ρ d L:=
 ⟨vs,hr,d,L',Vs.drop hs,h⟩
end
section
variable {P:Program}{pan:List PanicEntry→AR}{Qn:Env→AR}{Ls L:List Ac}{ρ:Env}{d:Ac}{s:GS}{t:Nat}{tk:Bool}
end
theorem Aw.Abt{P:Program}{f:FuncId}{args:List Value}{d:Ac}{L:List Ac}{R R':Ending→Ac→List Ac→Prop}
  (h:Aw P f args d L R) (hr:∀e d' L',Le d d'→R e d' L'→∃d2 L2,Vs d' L' d2 L2∧R' e d2 L2):Aw P f args d L R':=
 ⟨h.1,fun F W x=>(h.2 F W x).mono fun e W' ⟨d',L',a,b,c,r⟩=>let ⟨d2,L2,v,r2⟩:=hr e d' L' b r;⟨d2,L2,v.2 F W' a,b.trans v.1,c,r2⟩⟩
theorem Aw.D1{P:Program}{f:FuncId}{args:List Value}{d:Ac}{L:List Ac}{R R':Value→Ac→List Ac→Prop}
  (h:Aw P f args d L (Ret R)) (hr:∀v d' L',Le d d'→R v d' L'→∃d2 L2,Vs d' L' d2 L2∧R' v d2 L2):Aw P f args d L (Ret R'):=
 h.Abt (fun e d' L' hl r=>by
  cases e with
  |returned v=>exact hr v d' L' hl r
  |panicked c=>exact r.elim
  |outgrown=>exact r.elim)
theorem En.grow{N:Nat}{v:Value}{c:List UInt8}{h d:Ac} (r:En N v c h) (hN:N≤140737488355328):Aq 1 AM d v c h:=by
 obtain⟨hc,b,T,rfl,rfl⟩:=r
 refine⟨c.map Ay,BK.mk (by simp) (by omega) hc (by omega) (by simp;omega) (by simp),fun i hi=>?_⟩
 simp only [AM,chunk,Aem,←Ahl,←Ahm]
 rw [Adi hi];rfl
end
section
def Hi:List Ac→Ac
 |[]=>emp
 |h::L=>join h (Hi L)
theorem HP:∀{L:List Ac}{h:Ac},h∈L→Le h (Hi L)
 |k::L,h,hm=>by
  rcases Adb.1 hm with rfl|hm
  ·exact Le.AH _ _
  ·exact(HP hm).trans (Le.A6 _ _)
theorem N3{k:Ac}:∀{L:List Ac},(∀h∈L,EG k h)→EG k (Hi L)
 |[],_=>fun _ _ _ _ e=>e.elim
 |h::_,hd=>fun b o o' e e'=>e'.elim (hd h (Acu ..) b o o' e) (N3 (fun h' hm=>hd h' (Acy _ hm)) b o o' e)
theorem Vs.cons{d d' h:Ac}{L L':List Ac} (v:Vs d L d' L'):Vs d (h::L) d' (h::L'):=
 ⟨v.1,fun F W x=>(v.2 (h::F) W (x.perm (List.perm_middle.symm.cons d))).perm (List.perm_middle.cons d')⟩
theorem Vs.Ug{d:Ac}{L0:List Ac}:∀{L:List Ac},L.Pairwise EG→Vs d (Hi L::L0) d (L++L0)
 |[],_=>Vs.drop (Acz _ _)
 |h::L,hp=>by
  rw [Ahi] at hp
  exact(Vs.split (N3 hp.1)).trans (Vs.cons (Vs.Ug hp.2))
theorem Vs.UJ{d:Ac}{L0:List Ac}:∀{L:List Ac},Vs d (L++L0) d (Hi L::L0)
 |[]=>Vs.emp
 |_::L=>(Vs.cons (Vs.UJ (L:=L))).trans Vs.join
theorem Ok.pw{d:Ac}{L F:List Ac}{W:World} (x:Ok (d::(L++F)) W):(d::L).Pairwise EG:=x.1.sublist ((Agg L F).cons_cons d)
theorem CQ.borrow{P:Program}{f:FuncId}{vs:List Value}{d:Ac}{L:List Ac}{v:Value} (h:∀d1,Le d d1→(∀k∈L,Le k d1)→CQ P f vs d1 v):
  Aw P f vs d L (Ret fun r d' L'=>r=v∧d'=d∧L'=L):=by
 have h:=h (Hi (d::L)) (HP (Acu ..)) (fun k hk=>HP (Acy _ hk))
 refine⟨h.1,fun F W x=>?_⟩
 have hp:=x.pw
 have y:Ok (Hi (d::L)::([]++F)) W:=by
  have:=(Vs.UJ (d:=emp) (L0:=F) (L:=d::L)).2 [] W (by simpa using x.emp)
  simpa using this.tail
 refine(h.2 F W y).mono fun e W' ⟨d',L',a,b,c,r⟩=>?_
 cases e with
 |panicked c=>exact r.elim
 |outgrown=>exact r.elim
 |returned u=>
  obtain⟨rfl,rfl,rfl⟩:=r
  refine⟨d,L,?_,Le.refl d,c,rfl,rfl,rfl⟩
  have:=(Vs.Ug (d:=emp) (L0:=F) hp).2 [] W' (by simpa using a.emp)
  simpa using this.tail
section
variable {P:Program}{pan:List PanicEntry→AR}{Qn:Env→AR}{Ls L:List Ac}{ρ:Env}{d:Ac}{s:GS}{t:Nat}{tk:Bool}
theorem I1{f:FuncId}{args:List Operand}{vs:List Value}{v:Value} (ea:args.map (ev ρ)=vs) (hc:∀d1,Le d d1→(∀k∈L,Le k d1)→CQ P f vs d1 v)
  (h:gws P pan Qn s Ls (upd ρ t v) d L):gws P pan Qn (.op false ⟨some t,none,.call f args⟩ s) Ls ρ d L:=by
 refine E7 (R:=fun r d' L'=>r=v∧d'=d∧L'=L) L.length ea (by rw [Aeg];exact CQ.borrow hc) (fun r d' L' _ ⟨h1,h2,h3⟩=>?_)
 subst h1;subst h2;subst h3
 rw [Afv,Ads];exact h
theorem Dx{f:FuncId}{args:List Operand}{R:Value→Ac→List Ac→Prop}{vs:List Value}{A B:List Ac} (hL:L=A++B) (ea:args.map (ev ρ)=vs) (hc:Aw P f vs d A (Ret R))
  (h:∀v d' L',Le d d'→R v d' L'→gws P pan Qn s Ls (upd ρ t v) d' (L'++B)):gws P pan Qn (.op false ⟨some t,none,.call f args⟩ s) Ls ρ d L:=by
 subst hL
 refine E7 A.length ea (by rw [Ahc];exact hc) (fun v d' L' hl hr=>?_)
 rw [Agp];exact h v d' L' hl hr
end
theorem RSl.cut{α:Type}{sz:Nat}{R:Ac→List Value→α→Prop}{d:Ac}{a:Option Addr}{n c:Nat}{xs:List α} (hr:RSl sz R d (.slice a n c) xs) {l h m:Nat} (h1:l≤h) (h2:h≤m) (h3:m≤c) (h4:h≤xs.length):
  RSl sz R d (.slice (if m=l then a else a.map fun a=>⟨a.block,a.off+l*sz,none⟩) (h - l) (m - l)) ((xs.drop l).take (h - l)):=by
 obtain⟨a',c',b,o,e,k2,k3,k4,k5,k6,k7,k8⟩:=hr
 cases e
 have hl:((xs.drop l).take (h - l)).length=h - l:=by simp;omega
 refine⟨_,m - l,b,o+l*sz,by rw [hl],fun h0=>?_,fun h0 a' ha=>?_,fun h0=>?_,by omega,by omega,by omega,fun i hi=>?_⟩
 ·rw [hl] at h0
  rw [if_neg (by omega),k2 (by omega)];rfl
 ·rw [if_neg (by omega)] at ha
  cases a with
  |none=>cases ha
  |some a=>cases ha;rfl
 ·split at h0
  ·omega
  ·cases a with
   |none=>have:=k4 rfl;omega
   |some a=>cases h0
 ·rw [hl] at hi
  obtain⟨cs,j1,j2,j3⟩:=k8 (l+i) (by omega)
  refine⟨cs,j1,?_,?_⟩
  ·rw [Aer,←Nat.add_assoc] at j2;exact j2
  ·simpa using j3
section
variable {P:Program}{pan:List PanicEntry→AR}{Qn:Env→AR}{Ls L:List Ac}{ρ:Env}{d:Ac}{s:GS}{t:Nat}{tk:Bool}{α:Type}{sz:Nat}{R:Ac→List Value→α→Prop}{x y z:Operand}{v:Value}{xs:List α}{kk kk':IntKind}{n m:Nat}
theorem NM{j:Int} (ex:ev ρ x=v) (hr:RSl sz R d v xs) (ey:ev ρ y=.int kk j) (hj:j=(n:Int)) (hn:n≤xs.length) (k:∀v',RSl sz R d v' (xs.take n)→gws P pan Qn s Ls (upd ρ t v') d L):
  gws P pan Qn (.op tk ⟨some t,none,.sl sz x none (some y) none⟩ s) Ls ρ d L:=by
 subst hj
 have hr':=hr
 obtain⟨a,c,b,o,rfl,h2,h3,h4,h5,h6,h7,h8⟩:=hr
 have hc:DP xs.length c none (some (ev ρ y)) none=some (0,n,c):=by
  simp only [DP,GC,Gw,GM,Adz,Aeq,ey,bnd]
  rw [if_pos (by omega)];simp
 refine w_q rfl ⟨a,xs.length,c,0,n,c,ex,h3,hc,rfl⟩ (k _ ?_)
 simpa using hr'.cut (l:=0) (h:=n) (m:=c) (by omega) (by omega) (Ach c) hn
theorem Lz{j j':Int} (ex:ev ρ x=v) (hr:RSl sz R d v xs) (ey:ev ρ y=.int kk j) (ez:ev ρ z=.int kk' j') (hj:j=(n:Int)) (hj':j'=(n:Int)) (hn:n≤xs.length) (k:∀v',RSl sz R d v' (xs.take n)→gws P pan Qn s Ls (upd ρ t v') d L):
  gws P pan Qn (.op tk ⟨some t,none,.sl sz x none (some y) (some z)⟩ s) Ls ρ d L:=by
 subst hj;subst hj'
 have hr':=hr
 obtain⟨a,c,b,o,rfl,h2,h3,h4,h5,h6,h7,h8⟩:=hr
 have hc:DP xs.length c none (some (ev ρ y)) (some (ev ρ z))=some (0,n,n):=by
  simp only [DP,GC,Gw,GM,ey,ez,bnd]
  rw [if_pos (by omega)]
  simp
 refine w_q rfl ⟨a,xs.length,c,0,n,n,ex,fun h0=>h3 (by omega),hc,rfl⟩ (k _ ?_)
 simpa using hr'.cut (l:=0) (h:=n) (m:=n) (by omega) (by omega) (by omega) hn
theorem EC{j:Int} (ex:ev ρ x=v) (hr:RSl sz R d v xs) (ey:ev ρ y=.int kk j) (hj:j=(n:Int)) (hn:n≤xs.length) (k:∀v',RSl sz R d v' (xs.drop n)→gws P pan Qn s Ls (upd ρ t v') d L):
  gws P pan Qn (.op tk ⟨some t,none,.sl sz x (some y) none none⟩ s) Ls ρ d L:=by
 subst hj
 have hr':=hr
 obtain⟨a,c,b,o,rfl,h2,h3,h4,h5,h6,h7,h8⟩:=hr
 have hc:DP xs.length c (some (ev ρ y)) none none=some (n,xs.length,c):=by
  simp only [DP,GC,Gw,GM,Agr,Aci,if_false,Adz,ey,bnd]
  rw [if_pos (by omega)];simp
 refine w_q rfl ⟨a,xs.length,c,n,xs.length,c,ex,fun(h0:c≠n)=>h3 (by omega),hc,rfl⟩ (k _ ?_)
 have:=hr'.cut (l:=n) (h:=xs.length) (m:=c) (by omega) (by omega) (Ach c) (Ach _)
 rwa [Aed (by simp)] at this
theorem Z7{j j':Int} (ex:ev ρ x=v) (hr:RSl sz R d v xs) (ey:ev ρ y=.int kk j) (ez:ev ρ z=.int kk' j') (hj:j=(n:Int)) (hj':j'=(m:Int)) (hnm:n≤m) (hn:m≤xs.length) (k:∀v',RSl sz R d v' ((xs.drop n).take (m - n))→gws P pan Qn s Ls (upd ρ t v') d L):
  gws P pan Qn (.op tk ⟨some t,none,.sl sz x (some y) (some z) none⟩ s) Ls ρ d L:=by
 subst hj;subst hj'
 have hr':=hr
 obtain⟨a,c,b,o,rfl,h2,h3,h4,h5,h6,h7,h8⟩:=hr
 have hc:DP xs.length c (some (ev ρ y)) (some (ev ρ z)) none=some (n,m,c):=by
  simp only [DP,GC,Gw,GM,Adz,ey,ez,bnd]
  rw [if_pos (by omega)]
  simp only [Adz,Agh]
  rw [if_pos (by omega)];simp
 exact w_q rfl ⟨a,xs.length,c,n,m,c,ex,fun(h0:c≠n)=>h3 (by omega),hc,rfl⟩ (k _ (hr'.cut (l:=n) (h:=m) (m:=c) hnm (by omega) (Ach c) hn))
end
section
variable {P:Program}{pan:List PanicEntry→AR}{Qn:Env→AR}{Ls L:List Ac}{ρ:Env}{d:Ac}{s:GS}{t:Nat}
theorem Tv{sz by_:Nat}{z:List Value}{x y:Operand} (i:Nat) {v:Value}{n m b:Nat}{T:TypeId}{xs cs:List Value}{h:Ac} (ex:ev ρ x=v) (hi:L[i]?=some h) (ho:BK sz v n xs h)
  (ey:ev ρ y=.slice (some ⟨b,0,none⟩) m m) (hl:cs.length=m*sz) (h1:(cs.all (·.oneCell'))=true) (hsz:0<sz) (hm:n+m≤140737488355328) (hb:(n+m)*by_≤140737488355328)
  (k:∀v' h',BK sz v' (n+m) (xs++cs) h'→gws P pan Qn s Ls (upd ρ t v') d (L.set i h')):gws P pan Qn (.op false ⟨some t,none,.app sz by_ z x y⟩ s) Ls ρ d (bx b T cs::L):=by
 have hrd:RdX d (Ls++(bx b T cs::L)++(bx b T cs::L)) (.slice (some ⟨b,0,none⟩) m m) m sz cs:=
  RdX.lit (T:=T) (Ls.length) (by rw [Acg,Aeb (Ach _)];simp) hl
 refine OG (i+1) ex (by simpa using hi) ho ey hrd h1 hsz hm hb (fun v' h' o=>⟨d,L.set i h',?_,k v' h' o⟩)
 rw [Agb]
 exact Vs.drop (Acz _ _)
end
theorem Vs.Ud{d:Ac} (Ls:List (List Ac)) (is js:List Nat) (hp:(is++js).isPerm (Ade Ls.length)=true):Vs d Ls.flatten d ((is.map fun i=>Ls.getD i []).flatten):=by
 have hp:(is++js).Perm (Ade Ls.length):=List.isPerm_iff.1 hp
 have h1:=hp.symm.map fun i=>Ls.getD i []
 have h0:(Ade Ls.length).map (fun i=>Ls.getD i [])=Ls:=by
  apply Ahd
  ·simp
  ·intro i h1 h2
   simp [Afw,h2]
 rw [h0,Afk] at h1
 have h2:=h1.flatten
 rw [List.flatten_append] at h2
 exact(Vs.perm h2).trans (Vs.drop (Agg _ _))
section
variable {P:Program}{Q:B2}{ρ:Env}{d:Ac}{L:List Ac}
theorem Bv{s:GS} (Ls L1:List Ac) (hL:L=Ls++L1) (h:gws P Q.pan Q.n s Ls ρ d L1):gwp P (.reg true s) Q ρ d L:=⟨d,Ls,L1,by rw [hL];exact Vs.refl d _,h⟩
theorem Ba{res:List F5}{R:Ending→Ac→List Ac→Prop} (vs:List Value) {d':Ac}{L':List Ac} (hr:GA ρ (HC d L) res vs) (hs:Vs d L d' L') (h:R (.returned (Jm vs)) d' L'):Cy res R ρ d L:=
 ⟨vs,hr,d',L',hs,h⟩
end
theorem VA{l:List Value}{m:Nat}{x:Value} (h:m<l.length):patch l m [x]=l.set m x:=by
 rw [Ahj,if_pos h];simp [patch]
theorem BK.Abx{n:Nat}{v:Value}{us:List Value}{h:Ac} (o:BK 1 v n us h) {m:Nat} (hm:m<n):
  ∃b T l c,v=.slice (some ⟨b,0,none⟩) n c∧h=bx b T l∧m<l.length∧(∀u,us[m]?=some u→l[m]?=some u)∧∀x,BK 1 v n (us.set m x) (bx b T (patch l m [x])):=by
 obtain⟨h1,h2,⟨rfl,rfl,rfl⟩|⟨b,T,l,c,rfl,rfl,h3,h4,h5,h6⟩⟩:=o
 ·omega
 ·have hml:m<l.length:=by omega
  refine⟨b,T,l,c,rfl,rfl,hml,fun u hu=>?_,fun x=>?_⟩
  ·rw [←h6] at hu
   rw [Adt (by omega)] at hu
   exact hu
  ·rw [VA hml]
   refine⟨by simpa using h1,h2,.inr ⟨b,T,l.set m x,c,rfl,rfl,h3,h4,by simpa using h5,?_⟩⟩
   rw [Adf,List.take_set,h6]
theorem Aq.LH{d:Ac}{v:Value}{xs:List UInt8}{h:Ac} (o:Aq 1 AM d v xs h) {m:Nat} (hm:m<xs.length):
  ∃b T l c,v=.slice (some ⟨b,0,none⟩) xs.length c∧h=bx b T l∧m<l.length∧l[m]?=some (Ay xs[m])∧∀y,Aq 1 AM d v (xs.set m y) (bx b T (patch l m [Ay y])):=by
 obtain⟨b,T,l,c,h1,h2,h3,h4,h5⟩:=o.bytes.Abx hm
 refine⟨b,T,l,c,h1,h2,h3,h4 _ (by simp [hm]),fun y=>?_⟩
 have:=h5 (Ay y)
 rw [←List.map_set] at this
 refine⟨(xs.set m y).map Ay,by rw [Adf];exact this,fun i hi=>?_⟩
 simp only [AM,chunk,Aem,←Ahl,←Ahm]
 rw [Adi hi];rfl
section
variable {P:Program}{pan:List PanicEntry→AR}{Qn:Env→AR}{Ls L:List Ac}{ρ:Env}{d:Ac}{s:GS}{t:Nat}{tk:Bool}
theorem KK{x i:Operand}{b n c:Nat}{k:IntKind}{j:Int} (m:Nat) (ex:ev ρ x=.slice (some ⟨b,0,none⟩) n c) (ei:ev ρ i=.int k j) (hm:j=(m:Int)) (hl:m<n)
  (h:gws P pan Qn s Ls (upd ρ t (.pointer (some ⟨b,m,none⟩))) d L):gws P pan Qn (.op tk ⟨some t,none,.idx 1 x i⟩ s) Ls ρ d L:=
 BA (o:=0) m ex ei hm hl (SAd.some n b 0) (by rw [Aeh,Aem];exact h)
end
end
section
def flat:List (List Ac)→List Ac
 |[]=>[]
 |[l]=>l
 |l::m::Ls=>l++flat (m::Ls)
theorem Ty:∀Ls:List (List Ac),flat Ls=Ls.flatten
 |[]=>rfl
 |[l]=>by simp [flat]
 |l::m::Ls=>by simp only [flat];rw [Ty (m::Ls)];simp
theorem Vs.Sl{d:Ac}{L L':List Ac} (Ls:List (List Ac)) (is js:List Nat) (hp:(is++js).isPerm (Ade Ls.length)=true) (hL:L=flat Ls) (hL':(is.map fun i=>Ls.getD i []).flatten=L'):Vs d L d L':=by
 subst hL';rw [hL,Ty];exact Vs.Ud Ls is js hp
theorem Aw.borrow{P:Program}{f:FuncId}{vs:List Value}{d:Ac}{L:List Ac}{Q:Value→List Ac→Prop} (h:∀d1,Le d d1→(∀k∈L,Le k d1)→Aw P f vs d1 [] (Ret fun r d' L'=>d'=d1∧Q r L')):
  Aw P f vs d L (Ret fun r d' L'=>d'=d∧∃L1,L'=L1++L∧Q r L1):=by
 have h:=h (Hi (d::L)) (HP (Acu ..)) (fun k hk=>HP (Acy _ hk))
 refine⟨h.1,fun F W x=>?_⟩
 have hp:=x.pw
 have y:Ok (Hi (d::L)::([]++F)) W:=by
  have:=(Vs.UJ (d:=emp) (L0:=F) (L:=d::L)).2 [] W (by simpa using x.emp)
  simpa using this.tail
 refine(h.2 F W y).mono fun e W' ⟨d',L',a,b,c,r⟩=>?_
 cases e with
 |panicked c=>exact r.elim
 |outgrown=>exact r.elim
 |returned u=>
  obtain⟨rfl,r⟩:=r
  refine⟨d,L'++L,?_,Le.refl d,c,rfl,L',rfl,r⟩
  have:=(Vs.Ug (d:=emp) (L0:=L'++F) hp).2 [] W' (by simpa using a.emp)
  have z:Ok ((d::L)++(L'++F)) W':=by simpa using this.tail
  refine z.perm ?_
  simp only [Aej,Acg]
  refine Aco d ?_
  rw [←Acg,←Acg]
  exact Afb F Ack
section
variable {P:Program}{pan:List PanicEntry→AR}{Qn:Env→AR}{Ls L:List Ac}{ρ:Env}{d:Ac}{s:GS}{t:Nat}{tk:Bool}
theorem AZ{n:Nat}{x y:Operand}{b o:Nat}{T:TypeId}{l:List Value}{v:Value} (i:Nat) (l':List Value) (hi:L[i]?=some (bx b T l)) (ex:ev ρ x=.pointer (some ⟨b,o,none⟩)) (ey:ev ρ y=v)
  (hn:v.cells.size=n) (hl:o+n≤l.length) (h1:(v.cells.toList.all (·.oneCell'))=true) (hp:patch l o v.cells.toList=l') (h:gws P pan Qn s Ls ρ d (L.set i (bx b T l'))):
  gws P pan Qn (.op false ⟨none,none,.st n x y⟩ s) Ls ρ d L:=by subst hp;exact BN i hi ex ey hn hl h1 h
theorem IX{f:FuncId}{args:List Operand}{Q:Value→List Ac→Prop}{vs:List Value} (ea:args.map (ev ρ)=vs) (hc:∀d1,Le d d1→(∀k∈L,Le k d1)→Aw P f vs d1 [] (Ret fun r d' L'=>d'=d1∧Q r L'))
  (h:∀r L',Q r L'→gws P pan Qn s Ls (upd ρ t r) d (L'++L)):gws P pan Qn (.op false ⟨some t,none,.call f args⟩ s) Ls ρ d L:=by
 refine E7 (R:=fun r d' L'=>d'=d∧∃L1,L'=L1++L∧Q r L1) L.length ea (by rw [Aeg];exact Aw.borrow hc) (fun r d' L' _ ⟨h1,L1,h2,h3⟩=>?_)
 subst h1;subst h2
 rw [Afv,Ads];exact h r L1 h3
theorem Rh{x y:Operand}{k':IntKind}{a:Nat} (ex:ev ρ x=.int .i64 a) (ey:ev ρ y=.int k' 8) (ha:a≤1000000000000) (h:gws P pan Qn s Ls (upd ρ t (.int .i64 (a*256:Nat))) d L):
  gws P pan Qn (.op tk ⟨some t,none,.bin .shl x y⟩ s) Ls ρ d L:=by
 refine Da ?_ h
 have h1:min (Int.toNat 8) IntKind.i64.bits=8:=by simp [IntKind.bits]
 rw [ex,ey]
 simp only [CV,h1]
 rw [if_neg (by omega),DD (by omega) (by omega)]
 congr 2
theorem Qu{x y:Operand}{a b:Nat} (ex:ev ρ x=.int .i64 (a*256:Nat)) (ey:ev ρ y=.int .i64 b) (ha:a≤1000000000000) (hb:b<256) (h:gws P pan Qn s Ls (upd ρ t (.int .i64 (a*256+b:Nat))) d L):
  gws P pan Qn (.op tk ⟨some t,none,.bin .or x y⟩ s) Ls ρ d L:=by
 refine Da ?_ h
 have e:(BitVec.ofInt IntKind.i64.bits ((a*256:Nat):Int)|||BitVec.ofInt IntKind.i64.bits ((b:Nat):Int)).toNat=a*256+b:=by
  have h1:=Nat.shiftLeft_add_eq_or_of_lt (i:=8) hb a
  rw [Nat.shiftLeft_eq] at h1
  show((BitVec.ofInt 64 ((a*256:Nat):Int):BitVec 64)|||(BitVec.ofInt 64 ((b:Nat):Int):BitVec 64)).toNat=_
  rw [BitVec.toNat_or,BitVec.ofInt_natCast,BitVec.ofInt_natCast,BitVec.toNat_ofNat,BitVec.toNat_ofNat]
  rw [Afd (by omega),Afd (by omega)]
  exact h1.symm
 rw [ex,ey]
 simp only [CV,e]
 rw [DD (by omega) (by omega)]
 simp
theorem V6{x y:Operand}{a b:Int} (ex:ev ρ x=.int .u8 a) (ey:ev ρ y=.int .u8 b) (h1:0≤a+b) (h2:a+b≤255)
  (h:gws P pan Qn s Ls (upd ρ t (.int .u8 (a+b))) d L):gws P pan Qn (.op tk ⟨some t,none,.bin .add x y⟩ s) Ls ρ d L:=
 Da (by
  have e:IntKind.u8.wrap (a+b)=a+b:=by simp [IntKind.wrap,IntKind.signed,IntKind.bits];omega
  rw [ex,ey];simp [CV,e]) h
end
theorem Aq.D8{d d':Ac}{v:Value}{xs:List (List UInt8)}{h:Ac} (o:Aq 1 RBs d v xs h) (hl:Le d d'):Aq 1 RBs d' v xs h:=Aq.mono (R:=RBs) EO o hl
theorem Aq.Ic{d d':Ac}{v:Value}{xs:List Int}{h:Ac} (o:Aq 1 Bg d v xs h) (hl:Le d d'):Aq 1 Bg d' v xs h:=Aq.mono (R:=Bg) B8 o hl
end
section
section
variable {P:Program}{Q:B2}{ρ:Env}{d:Ac}{L:List Ac}
theorem BI{a b:DR} (h:xwp P a {Q with n:=xwp P b Q} ρ d L):xwp P (.seq a b) Q ρ d L:=h
theorem x_g{c:Ck} (h:gwp P c Q ρ d L):xwp P (.g c) Q ρ d L:=h
theorem Aby{c:Operand}{a b:DR} (e:ev ρ c=.bool true) (h:xwp P a Q ρ d L):xwp P (.cond c a b) Q ρ d L:=⟨true,e,fun _=>h,fun q=>by cases q⟩
theorem YD{c:Operand}{a b:DR} (e:ev ρ c=.bool false) (h:xwp P b Q ρ d L):xwp P (.cond c a b) Q ρ d L:=⟨false,e,fun q=>(by cases q),fun _=>h⟩
theorem Gc{id:Nat}{a:DR} (h:xwp P a {Q with ex:=fun j=>if j=id then Q.n else Q.ex j} ρ d L):xwp P (.block id a) Q ρ d L:=h
theorem Ph{c:DR} (l:List (Nat×Value)) (e:BD ρ l) (h:xwp P c Q (IH ρ l) d L):xwp P c Q ρ d L:=by rwa [Il e] at h
end
theorem Fm{P:Program}:∀(c:DR) {Q Q':B2}{ρ:Env}{d:Ac}{L:List Ac},xwp P c Q ρ d L→(∀ρ d L,Q.n ρ d L→Q'.n ρ d L)→(∀i ρ d L,Q.ex i ρ d L→Q'.ex i ρ d L)→
  (∀ρ d L,Q.ret ρ d L→Q'.ret ρ d L)→Q.pan=Q'.pan→xwp P c Q' ρ d L
 |.g c,_,_,_,_,_,h,h1,h2,h3,h4=>Et c h h1 h2 h3 h4
 |.seq a b,_,_,_,_,_,h,h1,h2,h3,h4=>Fm a h (fun _ _ _ h=>Fm b h h1 h2 h3 h4) h2 h3 h4
 |.cond c a b,_,_,_,_,_,⟨t,e,k1,k2⟩,h1,h2,h3,h4=>⟨t,e,fun q=>Fm a (k1 q) h1 h2 h3 h4,fun q=>Fm b (k2 q) h1 h2 h3 h4⟩
 |.block id a,Q,Q',_,_,_,h,h1,h2,h3,h4=>by
  refine Fm a (Q:={Q with ex:=fun j=>if j=id then Q.n else Q.ex j}) (Q':={Q' with ex:=fun j=>if j=id then Q'.n else Q'.ex j}) h h1 (fun i ρ d L hq=>?_) h3 h4
  simp only at hq⊢
  split at hq
  ·rename_i e;rw [if_pos e];exact h1 _ _ _ hq
  ·rename_i e;rw [if_neg e];exact h2 _ _ _ _ hq
 |.loop a,Q,Q',_,_,_,⟨I,⟨m,hI⟩,round⟩,h1,h2,h3,h4=>
  ⟨I,⟨m,hI⟩,fun m ρ d L hi=>Fm a (Q:={Q with n:=_}) (Q':={Q' with n:=_}) (round m ρ d L hi) (fun _ _ _ h=>h) h2 h3 h4⟩
 |.yl pre dst f args post,Q,Q',_,_,_,h,h1,_,_,h4=>by
  simp only [xwp] at h⊢
  rw [←h4]
  refine Dc (fun ρ d L hm=>?_) pre h
  obtain⟨l,A,B,R,e1,e2,hy,hR⟩:=hm
  exact⟨l,A,B,R,e1,e2,hy,fun v d2 L2 hl hr=>by rw [←h4];exact Dc h1 post (hR v d2 L2 hl hr)⟩
 |.snd pre dst ch x post,Q,Q',_,_,_,h,h1,_,_,h4=>by
  simp only [xwp] at h⊢
  rw [←h4]
  refine Dc (fun ρ d L hm=>?_) pre h
  obtain⟨i,c,cap,buf,s,r,tm,e1,e2,e3,hR⟩:=hm
  exact⟨i,c,cap,buf,s,r,tm,e1,e2,e3,by rw [←h4];exact Dc h1 post hR⟩
 |.sel pre dst ch z post,Q,Q',_,_,_,h,h1,_,_,h4=>by
  simp only [xwp] at h⊢
  rw [←h4]
  refine Dc (fun ρ d L hm=>?_) pre h
  obtain⟨i,c,cap,buf,s,r,tm,e1,e2,k1,k2⟩:=hm
  exact⟨i,c,cap,buf,s,r,tm,e1,e2,fun v rest e=>by rw [←h4];exact Dc h1 post (k1 v rest e),fun e=>by rw [←h4];exact Dc h1 post (k2 e)⟩
 |.rf f ps as bd,_,_,_,_,_,⟨g,first,cap,e1,hit⟩,h1,h2,h3,h4=>by
  refine⟨g,first,cap,e1,fun l rc k1 k2 k3=>?_⟩
  obtain⟨R,hc,hR⟩:=hit l rc k1 k2 k3
  refine⟨R,hc,fun e d' L' hl hr=>?_⟩
  obtain⟨v,rc',L'',q1,q2,q3,q4⟩:=hR e d' L' hl hr
  refine⟨v,rc',L'',q1,q2,q3,?_⟩
  cases hp:rc'.pending with
  |none=>rw [hp] at q4;exact h1 _ _ _ q4
  |some j=>
   rw [hp] at q4
   cases j with
   |exit id=>exact h2 _ _ _ _ q4
   |ret=>exact h3 _ _ _ q4
   |_=>exact q4
theorem Ru{P:Program}{c:DR}{Q:B2}{N N':Env→AR} (hn:∀ρ d L,N ρ d L→N' ρ d L) {ρ:Env}{d:Ac}{L:List Ac} (h:xwp P c {Q with n:=N} ρ d L):xwp P c {Q with n:=N'} ρ d L:=
 Fm c h hn (fun _ _ _ _ h=>h) (fun _ _ _ h=>h) rfl
section
variable {P:Program}{Q:B2}{ρ:Env}{d:Ac}{L:List Ac}
theorem Aba{a b:DR} (M:Env→AR) (h1:xwp P a {Q with n:=M} ρ d L) (h2:∀ρ d L,M ρ d L→xwp P b Q ρ d L):xwp P (.seq a b) Q ρ d L:=
 BI (Ru h2 h1)
theorem O4{α:Type}{a:DR} (slots:α→List (Nat×Value)) (inv:α→Ac→List Ac→Prop) (meas:α→Nat) (x0:α) (h0:BD ρ (slots x0)) (i0:inv x0 d L)
  (round:∀x ρ d L,inv x d L→xwp P a {Q with n:=fun ρ d L=>∃x',meas x'<meas x∧BD ρ (slots x')∧inv x' d L} (IH ρ (slots x)) d L):xwp P (.loop a) Q ρ d L:=by
 refine⟨fun m ρ d L=>∃x,meas x=m∧BD ρ (slots x)∧inv x d L,⟨meas x0,x0,rfl,h0,i0⟩,?_⟩
 rintro m ρ d L ⟨x,rfl,h1,h2⟩
 exact Ph _ h1 (Ru (fun ρ' d' L' ⟨x',k1,k2,k3⟩=>⟨meas x',k1,x',rfl,k2,k3⟩) (round x ρ d L h2))
theorem XT{pre post:GS}{dst:Option Nat}{f:Operand}{args:List Operand} (h:gws P Q.pan (QC P Q dst f args post) pre [] ρ d L):xwp P (.yl pre dst f args post) Q ρ d L:=h
theorem YR{pre post:GS}{dst:Option Nat}{ch x:Operand} (h:gws P Q.pan (On P Q dst ch x post) pre [] ρ d L):xwp P (.snd pre dst ch x post) Q ρ d L:=h
theorem Aa5{pre post:GS}{dst:Option Nat}{ch:Operand}{z:Value} (h:gws P Q.pan (Lp P Q dst ch z post) pre [] ρ d L):xwp P (.sel pre dst ch z post) Q ρ d L:=h
theorem Pt{dst:Option Nat}{f:Operand}{args:List Operand}{post:GS}{l:Nat}{vs:List Value} (A B:List Ac) {R:Value→Ac→List Ac→Prop} (ef:ev ρ f=.func (.yield l) #[] #[]) (hL:L=A++B) (ea:args.map (ev ρ)=vs) (hy:I4 P l vs d A R)
  (k:∀v d2 L2,Le d d2→R v d2 L2→gws P Q.pan Q.n post [] (put ρ dst v) d2 (L2++B)):QC P Q dst f args post ρ d L:=
 ⟨l,A,B,R,ef,hL,ea▸hy,k⟩
theorem Vo{dst:Option Nat}{ch x:Operand}{post:GS} (i:Nat) {c cap:Nat}{buf:List Value}{s r:Nat}{tm:Bool}{v:Value} (ec:ev ρ ch=.chan (some c)) (hi:L[i]?=some (sg c (.chan cap buf.toArray false s r tm))) (hroom:buf.length<cap) (ex:ev ρ x=v)
  (k:gws P Q.pan Q.n post [] (put ρ dst undef) d (L.set i (sg c (.chan cap (buf++[v]).toArray false (s+1) r tm)))):On P Q dst ch x post ρ d L:=
 ⟨i,c,cap,buf,s,r,tm,ec,hi,hroom,ex▸k⟩
theorem VW{dst:Option Nat}{ch:Operand}{z:Value}{post:GS} (i:Nat) {c cap:Nat}{v:Value}{buf:List Value}{s r:Nat}{tm:Bool} (ec:ev ρ ch=.chan (some c)) (hi:L[i]?=some (sg c (.chan cap (v::buf).toArray false s r tm)))
  (k:gws P Q.pan Q.n post [] (put ρ dst (.tuple #[.int .i64 0,.bool true,v])) d (L.set i (sg c (.chan cap buf.toArray false s (r+1) tm)))):Lp P Q dst ch z post ρ d L:=
 ⟨i,c,cap,v::buf,s,r,tm,ec,hi,fun v' rest e=>by cases e;exact k,fun e=>by cases e⟩
theorem VG{dst:Option Nat}{ch:Operand}{z:Value}{post:GS} (i:Nat) {c cap:Nat}{s r:Nat}{tm:Bool} (ec:ev ρ ch=.chan (some c)) (hi:L[i]?=some (sg c (.chan cap #[] false s r tm)))
  (k:gws P Q.pan Q.n post [] (put ρ dst (.tuple #[.int .i64 (-1),.bool false,z])) d L):Lp P Q dst ch z post ρ d L:=
 ⟨i,c,cap,[],s,r,tm,ec,hi,(fun v' rest e=>by cases e),fun _=>k⟩
end
end
section
section
variable {P:Program}{pan:List PanicEntry→AR}{Qn:Env→AR}{Ls L:List Ac}{ρ:Env}{d:Ac}{s:GS}{t:Nat}{tk:Bool}
theorem Xo(a:Int):IntKind.u64.wrap a=a % 18446744073709551616:=by simp [IntKind.wrap,IntKind.signed,IntKind.bits]
theorem AaI{x:Operand}{j:IntKind}{a:Int} (ex:ev ρ x=.int j a) (h:gws P pan Qn s Ls (upd ρ t (.int .u64 (a % 18446744073709551616))) d L):gws P pan Qn (.op tk ⟨some t,none,.cvi .u64 x⟩ s) Ls ρ d L:=
 Uj ex (by rw [Xo];exact h)
theorem Ea{z:Value}{x0:Operand}{v0:Value} (e0:ev ρ x0=v0) (c0:v0.cells= #[v0]) (h:∀b T,gws P pan Qn s Ls (upd ρ t (.slice (some ⟨b,0,none⟩) 1 1)) d (bx b T [v0]::L)):
  gws P pan Qn (.op false ⟨some t,none,.bsl 1 1 [z] [(0,x0)]⟩ s) Ls ρ d L:=by
 refine Dn (by omega) ?_ h
 simp [Instr.fill,Bp,Ade,List.range.loop,e0,c0]
theorem Aa6{z:Value}{x0 x1:Operand}{v0 v1:Value} (e0:ev ρ x0=v0) (c0:v0.cells= #[v0]) (e1:ev ρ x1=v1) (c1:v1.cells= #[v1]) (h:∀b T,gws P pan Qn s Ls (upd ρ t (.slice (some ⟨b,0,none⟩) 2 2)) d (bx b T [v0,v1]::L)):
  gws P pan Qn (.op false ⟨some t,none,.bsl 2 1 [z] [(0,x0),(1,x1)]⟩ s) Ls ρ d L:=by
 refine Dn (by omega) ?_ h
 simp [Instr.fill,Bp,Ade,List.range.loop,e0,c0,e1,c1]
theorem Aap{x y:Operand}{a b:Int} (ex:ev ρ x=.int .i64 a) (ey:ev ρ y=.int .i64 b) (h1: -9223372036854775808≤a) (h2:a≤9223372036854775807) (h3:2≤b) (h:gws P pan Qn s Ls (upd ρ t (.int .i64 (a.tdiv b))) d L):
  gws P pan Qn (.op tk ⟨some t,none,.bin .quo x y⟩ s) Ls ρ d L:=by
 refine Da ?_ h
 have h4:¬b=0:=by omega
 have h5:(a.tdiv b).natAbs≤a.natAbs:=by rw [Int.natAbs_tdiv];exact Nat.div_le_self _ _
 have h6:a= -9223372036854775808→(a.tdiv b).natAbs≤9223372036854775807:=by
  intro e
  rw [Int.natAbs_tdiv,e]
  have:2≤b.natAbs:=by omega
  have e2:(-9223372036854775808:Int).natAbs=9223372036854775808:=by decide
  rw [e2]
  have:=Nat.div_le_div_left (a:=9223372036854775808) this (by omega)
  exact Agk this (by decide)
 rw [ex,ey];simp [CV,h4];exact DD (by omega) (by omega)
theorem NV{x i:Operand}{len sz b o:Nat}{k:IntKind}{j:Int} (m:Nat) (ex:ev ρ x=.pointer (some ⟨b,o,none⟩)) (ei:ev ρ i=.int k j) (hm:j=(m:Int)) (hl:m<len) (h:gws P pan Qn s Ls (upd ρ t (.pointer (some ⟨b,o+m*sz,none⟩))) d L):
  gws P pan Qn (.op tk ⟨some t,none,.idxa len sz x i⟩ s) Ls ρ d L:=by
 subst hm
 exact w_q rfl ⟨b,o,k,m,ex,ei,by omega,by omega,rfl⟩ h
end
theorem Aw.forget{P:Program}{f:FuncId}{args:List Value}{d:Ac}{L:List Ac}{Q:Value→List Ac→Prop} (h:Aw P f args d L (Ret fun r _ L'=>Q r L')):Aw P f args d L (Ret fun r d' L'=>d'=d∧Q r L'):=
 ⟨h.1,fun F W x=>(h.2 F W x).mono fun e W' ⟨d',L',a,b,c,r⟩=>⟨d,L',a.le b,Le.refl d,c,by
  cases e with
  |returned v=>exact⟨rfl,r⟩
  |panicked c=>exact r.elim
  |outgrown=>exact r.elim⟩⟩
theorem CQ.of{P:Program}{f:FuncId}{args:List Value}{d:Ac}{v:Value} (h:Aw P f args d [] (Ret fun r _ L'=>r=v∧L'=[])):CQ P f args d v:=
 (Aw.forget (Q:=fun r L'=>r=v∧L'=[]) h).mono fun e d' L' _ r=>by
  cases e with
  |returned v=>exact⟨r.2.1,r.1,r.2.2⟩
  |panicked c=>exact r.elim
  |outgrown=>exact r.elim
section
variable {ρ:Env}{d:Ac}{L:List Ac}{t u:Nat}
end
end
section
section
variable {P:Program}{pan:List PanicEntry→AR}{Qn:Env→AR}{Ls L:List Ac}{ρ:Env}{d:Ac}{s:GS}{t:Nat}{tk:Bool}
end
end
section
section
variable {P:Program}{pan:List PanicEntry→AR}{Qn:Env→AR}{Ls L:List Ac}{ρ:Env}{d:Ac}{s:GS}{t:Nat}{tk:Bool}
end
end
end Go.Gk
end
section
namespace Go.Gk
open Go
section
variable {P:Program}{pan:List PanicEntry→AR}{Qn:Env→AR}{Ls L:List Ac}{ρ:Env}{d:Ac}{s:GS}
theorem Py{α:Type}{sz by_ t:Nat}{R:Ac→List Value→α→Prop}{z:List Value}{x y:Operand}{v w:Value}{xs ys:List α}{h:Ac} (hR:F3 R) (ex:ev ρ x=v) (ho:Aq sz R d v xs h)
  (ey:ev ρ y=w) (hs:Src sz R d (Ls++(h::L)++(h::L)) w ys) (hsz:0<sz) (hm:xs.length+ys.length≤140737488355328) (hb:(xs.length+ys.length)*by_≤140737488355328)
  (k:∀a c d',Le d d'→RSl sz R d' (.slice a (xs++ys).length c) (xs++ys)→gws P pan Qn s Ls (upd ρ t (.slice a (xs++ys).length c)) d' L):gws P pan Qn (.op false ⟨some t,none,.app sz by_ z x y⟩ s) Ls ρ d (h::L):=by
 obtain⟨cs,h1,h2⟩:=ho
 obtain⟨news,k1,k2,k3⟩:=hs
 have hl:=h1.1
 refine OG 0 ex rfl h1 ey k1 k2 hsz hm hb (fun v' h' o=>⟨join d h',L,Vs.freeze,?_⟩)
 have hg:Aq sz R d v' (xs++ys) h':=by
  refine⟨cs++news,by rw [Acl];exact o,fun j hj=>?_⟩
  by_cases e:j<xs.length
  ·rw [FG hl e,Agi e];exact h2 j e
  ·rw [Fi hl (by omega),Agd (by omega)]
   exact k3 _ (by simp at hj;omega)
 have hr:=hg.rsl hR hsz (Le.AH d h') (Le.A6 d h')
 obtain⟨a,c,rfl⟩:=hr.val
 exact k a c _ (Le.AH d h') hr
theorem AaJ{α:Type}{sz by_ t0 t1 t2:Nat}{R:Ac→List Value→α→Prop}{z:List Value}{x y:Operand}{vx vy:Value}{xs ys:List α} (hR:F3 R) (hc:Fy R) (hsz:0<sz) (_:(t0==t1)=false)
  (rx:RSl sz R d vx xs) (ry:RSl sz R d vy ys) (ex:∀u,ev (upd ρ t0 u) x=vx) (ey:∀u w,ev (upd (upd ρ t0 u) t1 w) y=vy) (hb:(xs.length+ys.length)*by_≤140737488355328) (hm:xs.length+ys.length≤140737488355328)
  (k:∀v0 v1 a c d',Le d d'→RSl sz R d' (.slice a (xs++ys).length c) (xs++ys)→gws P pan Qn s Ls (upd (upd (upd ρ t0 v0) t1 v1) t2 (.slice a (xs++ys).length c)) d' L):
  gws P pan Qn (.op false ⟨some t0,none,.bsl 0 sz z []⟩ (.op false ⟨some t1,none,.app sz by_ z (.tmp t0) x⟩ (.op false ⟨some t2,none,.app sz by_ z (.tmp t1) y⟩ s))) Ls ρ d L:=by
 have up:∀(ρ:Env) (t:Nat) (v:Value),ev (upd ρ t v) (.tmp t)=v:=fun ρ t v=>by simp [ev,upd]
 refine Dn (cs:=[]) (by simp) (by simp [Instr.fill,Bp]) (fun b T=>?_)
 have hm1:xs.length*by_≤140737488355328:=Agk (Adu _ (by omega)) hb
 refine ER (R:=R) 0 (up _ _ _) rfl (Aq.Km (R:=R) (sz:=sz)) (ex _) (rx.src hc hsz _) hsz (by simp;omega) (by simpa using hm1) (fun v1 h1 o1=>?_)
 rw [Adr] at o1
 exact Py (R:=R) hR (up _ _ _) o1 (ey _ _) (ry.src hc hsz _) hsz hm hb (fun a c d' hl hr=>k _ _ a c d' hl hr)
theorem Aaz{α:Type}{sz by_ t0 t1:Nat}{R:Ac→List Value→α→Prop}{z:List Value}{x:Operand}{vx:Value}{xs:List α} (_:F3 R) (hc:Fy R) (hsz:0<sz)
  (rx:RSl sz R d vx xs) (ex:∀u,ev (upd ρ t0 u) x=vx) (hb:xs.length*by_≤140737488355328) (hm:xs.length≤140737488355328)
  (k:∀v0 v1 h1,Aq sz R d v1 xs h1→gws P pan Qn s Ls (upd (upd ρ t0 v0) t1 v1) d (h1::L)):
  gws P pan Qn (.op false ⟨some t0,none,.bsl 0 sz z []⟩ (.op false ⟨some t1,none,.app sz by_ z (.tmp t0) x⟩ s)) Ls ρ d L:=by
 have up:∀(ρ:Env) (t:Nat) (v:Value),ev (upd ρ t v) (.tmp t)=v:=fun ρ t v=>by simp [ev,upd]
 refine Dn (cs:=[]) (by simp) (by simp [Instr.fill,Bp]) (fun b T=>?_)
 refine ER (R:=R) 0 (up _ _ _) rfl (Aq.Km (R:=R) (sz:=sz)) (ex _) (rx.src hc hsz _) hsz (by simp;omega) (by simpa using hb) (fun v1 h1 o1=>?_)
 rw [Adr] at o1
 exact k _ _ _ o1
end
end Go.Gk
namespace Go.Gk
open Go
section
variable {P:Program}{pan:List PanicEntry→AR}{Qn:Env→AR}{Ls L:List Ac}{ρ:Env}{d:Ac}{s:GS}{t:Nat}{tk:Bool}
theorem Aao{x y:Operand}{a b:Int} (ex:ev ρ x=.int .i64 a) (ey:ev ρ y=.int .i64 b) (h:∀u,(-9223372036854775808≤a+b→a+b≤9223372036854775807→u=a+b)→gws P pan Qn s Ls (upd ρ t (.int .i64 u)) d L):
  gws P pan Qn (.op tk ⟨some t,none,.bin .add x y⟩ s) Ls ρ d L:=
 Da (by rw [ex,ey];simp [CV]) (h (IntKind.i64.wrap (a+b)) (fun h1 h2=>DD h1 h2))
end
end Go.Gk
namespace Go.Gk
open Go
theorem CB{l vs:List Value}{o k:Nat} (h:o+vs.length≤l.length):(patch l o vs)[k]?=if o≤k∧k<o+vs.length then vs[k - o]? else l[k]?:=by
 unfold patch
 have hl:(l.take o).length=o:=by rw [Acw];omega
 by_cases h1:k<o
 ·rw [if_neg (by omega),Acg,Aee (by omega),Adt h1]
 by_cases h2:k<o+vs.length
 ·rw [if_pos ⟨by omega,h2⟩,Aee (by rw [Acl];omega),Aeb (by omega),hl]
 ·rw [if_neg (by omega),Aeb (by rw [Acl];omega),Aea,Acl,hl]
  congr 1;omega
theorem Bt{l vs:List Value}{o:Nat} (h:o+vs.length≤l.length):(patch l o vs).length=l.length:=by
 unfold patch;simp only [Acl,Acw,Acn];omega
theorem UD{l vs:List Value}{o n:Nat} (h:o+vs.length≤n) (hn:n≤l.length):(patch l o vs).take n=patch (l.take n) o vs:=by
 refine Afg fun k=>?_
 have hl:(l.take n).length=n:=by rw [Acw];omega
 rw [CB (by omega)]
 by_cases hk:k<n
 ·rw [Adt hk,Adt hk,CB (by omega)]
 ·rw [if_neg (by omega),Adq (by rw [Acw];omega),Adq (by omega)]
theorem IA{cs:List Value}{i sz k:Nat}:(chunk cs i sz)[k]?=if k<sz then cs[i*sz+k]? else none:=by
 unfold chunk
 by_cases h:k<sz
 ·rw [Adt h,Aea,if_pos h]
 ·rw [if_neg h,Adq (by rw [Acw];omega)]
theorem SF{cs vs:List Value}{i m sz n:Nat} (hl:cs.length=n*sz) (hv:vs.length=sz) (hm:m<n):chunk (patch cs (m*sz) vs) i sz=if i=m then vs else chunk cs i sz:=by
 have h1:m*sz+sz≤n*sz:=by have:=Adu sz (show m+1≤n from hm);rwa [Aer,Agn] at this
 refine Afg fun k=>?_
 rw [IA]
 by_cases e:i=m
 ·subst e
  rw [if_pos rfl]
  by_cases hk:k<sz
  ·rw [if_pos hk,CB (by omega),if_pos (by omega)]
   congr 1;omega
  ·rw [if_neg hk,Adq (by omega)]
 ·rw [if_neg e,IA]
  by_cases hk:k<sz
  ·rw [if_pos hk,if_pos hk,CB (by omega),if_neg]
   rintro⟨a,b⟩
   rcases Nat.lt_or_gt_of_ne e with q|q
   ·have:=Adu sz (show i+1≤m from q);rw [Aer,Agn] at this;omega
   ·have:=Adu sz (show m+1≤i from q);rw [Aer,Agn] at this;omega
  ·rw [if_neg hk,if_neg hk]
theorem Aq.Abp{α:Type}{sz:Nat}{R:Ac→List Value→α→Prop}{d:Ac}{v:Value}{xs:List α}{h:Ac} (_:0<sz) (o:Aq sz R d v xs h) {m:Nat} (hm:m<xs.length):
  ∃b T l c,v=.slice (some ⟨b,0,none⟩) xs.length c∧h=bx b T l∧m*sz+sz≤l.length∧∀cs' x,cs'.length=sz→R d cs' x→Aq sz R d v (xs.set m x) (bx b T (patch l (m*sz) cs')):=by
 obtain⟨cs,⟨h1,h2,⟨rfl,h0,rfl⟩|⟨b,T,l,c,rfl,rfl,h3,h4,h5,h6⟩⟩,hr⟩:=o
 ·omega
 ·have hmz:m*sz+sz≤xs.length*sz:=by have:=Adu sz (show m+1≤xs.length from hm);rwa [Aer,Agn] at this
  have hcz:xs.length*sz≤c*sz:=Adu sz h3
  refine⟨b,T,l,c,rfl,rfl,by omega,fun cs' x hl hx=>⟨patch cs (m*sz) cs',?_,fun i hi=>?_⟩⟩
  ·have hp:(patch cs (m*sz) cs').length=cs.length:=Bt (by omega)
   refine⟨by rw [hp,Adf,h1],by rw [Adf];exact h2,.inr ⟨b,T,_,c,by rw [Adf],rfl,by rw [Adf];exact h3,h4,by rw [Bt (by omega)];exact h5,?_⟩⟩
   rw [hp,UD (by omega) (by omega),h6]
  ·rw [SF h1 hl hm]
   rw [Adf] at hi
   by_cases e:i=m
   ·subst e
    rw [if_pos rfl,List.getElem_set_self];exact hx
   ·rw [if_neg e,List.getElem_set_ne (fun q=>e q.symm)];exact hr i hi
end Go.Gk
end
section
namespace Go.Gk
open Go
section
section
variable {P:Program}{pan:List PanicEntry→AR}{Qn:Env→AR}{Ls L:List Ac}{ρ:Env}{d:Ac}{s:GS}{t:Nat}{tk:Bool}
theorem Abc{Q:B2}{c:Ck} (M:Env→AR) (h:gwp P c {Q with n:=M} ρ d L) (k:∀ρ d L,M ρ d L→Q.n ρ d L):gwp P c Q ρ d L:=
 Et c h k (fun _ _ _ _ h=>h) (fun _ _ _ h=>h) rfl
end
end
section
section
variable {P:Program}{pan:List PanicEntry→AR}{Qn:Env→AR}{Ls L:List Ac}{ρ:Env}{d:Ac}{s:GS}{t:Nat}{tk:Bool}
end
end
section
section
variable {κ ν:Type} (kE:κ→Value) (vE:ν→Value)
def Ei(ms:List (κ×ν×Nat)):List MapEntry:=ms.map fun p=>⟨kE p.1,vE p.2.1,p.2.2⟩
def mp(b:Nat) (ms:List (κ×ν×Nat)) (c:Nat):Ac:=sg b (.map (Ei kE vE ms).toArray c)
end
section
variable {κ ν:Type} [DecidableEq κ]
def mIx(k:κ):List (κ×ν×Nat)→Nat→Option (Nat×ν)
 |[],_=>none
 |p::ms,i=>if k=p.1 then some (i,p.2.1) else mIx k ms (i+1)
def Ez(k:κ):List (κ×ν×Nat)→Option ν
 |[]=>none
 |p::ms=>if k=p.1 then some p.2.1 else Ez k ms
def GG(k:κ) (v:ν) (c:Nat):List (κ×ν×Nat)→List (κ×ν×Nat)
 |[]=>[(k,v,c)]
 |p::ms=>if k=p.1 then(p.1,v,p.2.2)::ms else p::GG k v c ms
def O5(k:κ) (c:Nat) (ms:List (κ×ν×Nat)):Nat:=if (Ez k ms).isSome then c else c+1
def ID(k:κ):List (κ×ν×Nat)→List (κ×ν×Nat)
 |[]=>[]
 |p::ms=>if k=p.1 then ms else p::ID k ms
def Pu(kd:Nat) (kE:κ→Value):Prop:=∀a b,eq1 kd (kE a) (kE b)=some (decide (a=b))
theorem Ho{kd:Nat}{kE:κ→Value}{vE:ν→Value} (hk:Pu kd kE) (k:κ):∀(ms:List (κ×ν×Nat)) (i:Nat),Bm kd (kE k) (Ei kE vE ms) i=some ((mIx k ms i).map fun p=>(p.1,vE p.2))
 |[],i=>rfl
 |p::ms,i=>by
  have ih:=Ho (vE:=vE) hk k ms (i+1)
  have e:eq1 kd (kE k) (kE p.1)=some (decide (k=p.1)):=hk k p.1
  show Bm kd (kE k) (⟨kE p.1,vE p.2.1,p.2.2⟩::Ei kE vE ms) i=_
  rw [Bm,mIx]
  simp only [e]
  by_cases h:k=p.1
  ·simp only [h,decide_true,if_true];rfl
  ·simp only [h,decide_false,if_false];exact ih
theorem Po(k:κ):∀(ms:List (κ×ν×Nat)) (i:Nat),(mIx k ms i).map (·.2)=Ez k ms
 |[],_=>rfl
 |p::ms,i=>by
  rw [mIx,Ez]
  by_cases h:k=p.1
  ·simp [h]
  ·rw [if_neg h,if_neg h];exact Po k ms (i+1)
theorem Yc{kE:κ→Value}{vE:ν→Value} (k:κ) (v:ν) (c:Nat) (ms:List (κ×ν×Nat)):
  upO (Ei kE vE ms) c (kE k) (vE v) ((mIx k ms 0).map fun p=>(p.1,vE p.2))=.map (Ei kE vE (GG k v c ms)).toArray (O5 k c ms):=by
 have key:∀(ms:List (κ×ν×Nat)) (i:Nat),(∀j u,mIx k ms i=some (j,u)→i≤j∧(Ei kE vE ms).modify (j - i) (fun e:MapEntry=>{e with val:=vE v})=Ei kE vE (GG k v c ms))∧
   (mIx k ms i=none→Ei kE vE ms++[(⟨kE k,vE v,c⟩:MapEntry)]=Ei kE vE (GG k v c ms)):=by
  intro ms
  induction ms with
  |nil=>intro i;exact⟨fun j u h=>(by cases h),fun _=>rfl⟩
  |cons p ms ih=>
   intro i
   rw [mIx,GG]
   by_cases h:k=p.1
   ·rw [if_pos h,if_pos h]
    refine⟨fun j u e=>?_,fun e=>by cases e⟩
    cases e
    refine⟨Ach _,?_⟩
    rw [Afy];simp [Ei]
   ·rw [if_neg h,if_neg h]
    obtain⟨h1,h2⟩:=ih (i+1)
    refine⟨fun j u e=>?_,fun e=>?_⟩
    ·obtain⟨h3,h4⟩:=h1 j u e
     refine⟨by omega,?_⟩
     rw [show j - i=(j - (i+1))+1 by omega]
     simp only [Ei,Afj,List.modify_succ_cons] at h4⊢
     rw [h4]
    ·have:=h2 e
     simp only [Ei,Afj,Aej] at this⊢
     rw [this]
 have hg:=Po k ms 0
 cases hq:mIx k ms 0 with
 |none=>
  rw [hq] at hg
  simp only [Option.map_none,upO,O5,←hg,Agr,Aci,if_false]
  rw [(key ms 0).2 hq]
 |some p=>
  obtain⟨j,u⟩:=p
  rw [hq] at hg
  simp only [Aeq,upO,O5,←hg,Option.isSome_some,if_true]
  have:=((key ms 0).1 j u hq).2
  rw [Nat.sub_zero] at this
  rw [this]
theorem WQ{kE:κ→Value}{vE:ν→Value} (k:κ) (c:Nat) (ms:List (κ×ν×Nat)):
  Ke (Ei kE vE ms) c ((mIx k ms 0).map fun p=>(p.1,vE p.2))=.map (Ei kE vE (ID k ms)).toArray c:=by
 have key:∀(ms:List (κ×ν×Nat)) (i:Nat),(∀j u,mIx k ms i=some (j,u)→i≤j∧(Ei kE vE ms).eraseIdx (j - i)=Ei kE vE (ID k ms))∧(mIx k ms i=none→ID k ms=ms):=by
  intro ms
  induction ms with
  |nil=>intro i;exact⟨fun j u h=>(by cases h),fun _=>rfl⟩
  |cons p ms ih=>
   intro i
   rw [mIx,ID]
   by_cases h:k=p.1
   ·rw [if_pos h,if_pos h]
    refine⟨fun j u e=>?_,fun e=>by cases e⟩
    cases e
    refine⟨Ach _,?_⟩
    rw [Afy];simp [Ei]
   ·rw [if_neg h,if_neg h]
    obtain⟨h1,h2⟩:=ih (i+1)
    refine⟨fun j u e=>?_,fun e=>by rw [h2 e]⟩
    obtain⟨h3,h4⟩:=h1 j u e
    refine⟨by omega,?_⟩
    rw [show j - i=(j - (i+1))+1 by omega]
    simp only [Ei,Afj,List.eraseIdx_cons_succ] at h4⊢
    rw [h4]
 cases hq:mIx k ms 0 with
 |none=>simp only [Option.map_none,Ke];rw [(key ms 0).2 hq]
 |some p=>
  obtain⟨j,u⟩:=p
  have:=((key ms 0).1 j u hq).2
  rw [Nat.sub_zero] at this
  simp only [Aeq,Ke,this]
theorem AaQ:Pu 0 (fun i:Int=>Value.int .i64 i):=fun a b=>by
 show some (a==b)=_
 by_cases e:a=b<;>simp [e]
end
section
variable {κ ν:Type}{kE:κ→Value}{vE:ν→Value}
variable {P:Program}{pan:List PanicEntry→AR}{Qn:Env→AR}{Ls L:List Ac}{ρ:Env}{d:Ac}{s:GS}{t:Nat}
theorem Aa2(kE:κ→Value) (vE:ν→Value) (h:∀b,gws P pan Qn s Ls (upd ρ t (.map (some b))) d (mp kE vE b [] 0::L)):gws P pan Qn (.op false ⟨some t,none,.mop .mk⟩ s) Ls ρ d L:=
 ⟨d,L,Vs.refl d L,fun b=>⟨_,_,Vs.refl _ _,h b⟩⟩
theorem YC [DecidableEq κ] {kd:Nat}{x y z:Operand}{b c:Nat}{ms:List (κ×ν×Nat)}{k:κ}{v:ν} (hk:Pu kd kE) (i:Nat) (hi:L[i]?=some (mp kE vE b ms c)) (ex:ev ρ x=.map (some b)) (ey:ev ρ y=kE k) (ez:ev ρ z=vE v)
  (h:gws P pan Qn s Ls ρ d (L.set i (mp kE vE b (GG k v c ms) (O5 k c ms)))):gws P pan Qn (.op false ⟨none,none,.mop (.up kd x y z)⟩ s) Ls ρ d L:=
 ⟨d,L,Vs.refl d L,i,b,Ei kE vE ms,c,_,hi,ex,by rw [ey];exact Ho hk k ms 0,_,_,Vs.refl _ _,by rw [ey,ez,Yc];exact h⟩
theorem Aa3 [DecidableEq κ] {kd:Nat}{x y:Operand}{b c:Nat}{ms:List (κ×ν×Nat)}{k:κ}{t:Option Nat} (hk:Pu kd kE) (i:Nat) (hi:L[i]?=some (mp kE vE b ms c)) (ex:ev ρ x=.map (some b)) (ey:ev ρ y=kE k)
  (h:gws P pan Qn s Ls (put ρ t (.tuple #[])) d (L.set i (mp kE vE b (ID k ms) c))):gws P pan Qn (.op false ⟨t,none,.mop (.del kd x y)⟩ s) Ls ρ d L:=
 ⟨d,L,Vs.refl d L,i,b,Ei kE vE ms,c,_,hi,ex,by rw [ey];exact Ho hk k ms 0,_,_,Vs.refl _ _,by rw [WQ];exact h⟩
theorem Abq{x:Operand}{b c:Nat}{ms:List (κ×ν×Nat)}{t:Option Nat} (i:Nat) (hi:L[i]?=some (mp kE vE b ms c)) (ex:ev ρ x=.map (some b))
  (h:gws P pan Qn s Ls (put ρ t (.tuple #[])) d (L.set i (mp kE vE b [] c))):gws P pan Qn (.op false ⟨t,none,.mop (.clr x)⟩ s) Ls ρ d L:=
 ⟨d,L,Vs.refl d L,i,b,(Ei kE vE ms).toArray,c,hi,ex,_,_,Vs.refl _ _,h⟩
theorem Ya{b c i:Nat}{ms:List (κ×ν×Nat)} (hi:(Ls++L)[i]?=some (mp kE vE b ms c)):Hf d ((Ls++L)++L) (.map (some b)) (Ei kE vE ms):=
 .inr ⟨b,c,rfl,_,.inr (Adh _ (Aew hi)),CA _ _⟩
theorem YN [DecidableEq κ] {kd:Nat}{z:Value}{x y:Operand}{b c:Nat}{ms:List (κ×ν×Nat)}{k:κ}{v:ν} (hk:Pu kd kE) (i:Nat) (hi:(Ls++L)[i]?=some (mp kE vE b ms c)) (ex:ev ρ x=.map (some b)) (ey:ev ρ y=kE k) (hg:Ez k ms=some v)
  (h:gws P pan Qn s Ls (upd ρ t (vE v)) d L):gws P pan Qn (.op false ⟨some t,none,.mop (.lk kd z false x y)⟩ s) Ls ρ d L:=by
 refine⟨d,L,Vs.refl d L,Ei kE vE ms,_,by rw [ex];exact Ya hi,by rw [ey];exact Ho hk k ms 0,_,_,Vs.refl _ _,?_⟩
 have:=Po k ms 0
 rw [hg] at this
 cases hq:mIx k ms 0 with
 |none=>rw [hq] at this;cases this
 |some p=>rw [hq] at this;simp at this;subst this;exact h
end
end
end Go.Gk
end
section
namespace Go.Gk
open Go
def CP:List Value:=Acr 256 (.int .u8 0)
theorem De:CP.length=256:=Adn
theorem RO:∀(cs:List Value) (k off:Nat) (a:Array Value),off+k+cs.length≤a.size→(cs.zipIdx k).foldl (fun(a:Array Value) (p:Value×Nat)=>a.setIfInBounds (off+p.2) p.1) a=(patch a.toList (off+k) cs).toArray
 |[],k,off,a,h=>by simp [patch]
 |c::cs,k,off,a,h=>by
  simp only [Acs] at h
  rw [List.zipIdx_cons,Ags,RO cs (k+1) off _ (by simp;omega)]
  congr 1
  have h1:off+k<a.toList.length:=by simp;omega
  simp only [Array.toList_setIfInBounds]
  apply Afg
  intro i
  rw [CB (by simp;omega),CB (by simp;omega)]
  simp only [Acs]
  by_cases e:i=off+k
  ·subst e
   rw [if_neg (by omega),if_pos ⟨by omega,by omega⟩,Afy,List.getElem?_set_self h1]
   rfl
  ·by_cases e2:off+(k+1)≤i∧i<off+(k+1)+cs.length
   ·rw [if_pos e2,if_pos ⟨by omega,by omega⟩,show i - (off+k)=(i - (off+(k+1)))+1 by omega,Agm]
   ·rw [if_neg e2,if_neg (by omega),List.getElem?_set_ne (by omega)]
theorem Kc{place:Nat→Option (Nat×Nat)}{a:List Value}{i off sz:Nat}{v:Value}{ps:List (Nat×Value)} (hp:place i=some (off,sz)) (hs:v.cells.size=sz) (ho:off+sz≤a.length):
  Instr.fill place a.toArray ((i,v)::ps)=Instr.fill place (patch a off v.cells.toList).toArray ps:=by
 rw [Instr.fill]
 simp only [hp]
 rw [if_neg (by simp [hs];omega)]
 congr 1
 have:=RO v.cells.toList 0 off a.toArray (by simp [hs];omega)
 rw [Nat.add_zero] at this
 have e:v.cells.zipIdx.foldl (fun cs (c,j)=>cs.setIfInBounds (off+j) c) a.toArray=(v.cells.toList.zipIdx 0).foldl (fun(a:Array Value) (p:Value×Nat)=>a.setIfInBounds (off+p.2) p.1) a.toArray:=by
  rw [←Array.foldl_toList,Array.toList_zipIdx]
 exact e.trans this
theorem P6{l cs:List Value} (h:l.length=cs.length):patch l 0 cs=cs:=by simp [patch,h]
section
variable {P:Program}{pan:List PanicEntry→AR}{Qn:Env→AR}{Ls L:List Ac}{ρ:Env}{d:Ac}{s:GS}{t:Nat}{tk:Bool}
theorem BX{l:List Value} (h:∀b T,gws P pan Qn s Ls (upd ρ t (.pointer (some ⟨b,0,none⟩))) d (bx b T l::L)):
  gws P pan Qn (.op false ⟨some t,none,.alo (.agg l.toArray)⟩ s) Ls ρ d L:=DI h
theorem Jr{n:Nat}{x y:Operand}{b:Nat}{T:TypeId}{l cs:List Value} (i:Nat) (hi:L[i]?=some (bx b T l)) (ex:ev ρ x=.pointer (some ⟨b,0,none⟩)) (ey:ev ρ y=.agg cs.toArray) (hn:cs.length=n) (hl:l.length=n) (h1:(cs.all (·.oneCell'))=true)
  (h:gws P pan Qn s Ls ρ d (L.set i (bx b T cs))):gws P pan Qn (.op false ⟨none,none,.st n x y⟩ s) Ls ρ d L:=
 BN (v:=.agg cs.toArray) i hi ex ey (by simpa [Value.cells] using hn) (by omega) (by simpa [Value.cells] using h1) (by
  have:patch l 0 (Value.agg cs.toArray).cells.toList=cs:=by simp only [Value.cells];exact P6 (by omega)
  rw [this];exact h)
theorem Bo{n:Nat}{x y:Operand}{b o:Nat}{T:TypeId}{l cs:List Value} (i:Nat) (hi:L[i]?=some (bx b T l)) (ex:ev ρ x=.pointer (some ⟨b,o,none⟩)) (ey:ev ρ y=.agg cs.toArray) (hn:cs.length=n) (hl:o+n≤l.length) (h1:(cs.all (·.oneCell'))=true)
  (h:gws P pan Qn s Ls ρ d (L.set i (bx b T (patch l o cs)))):gws P pan Qn (.op false ⟨none,none,.st n x y⟩ s) Ls ρ d L:=
 BN (v:=.agg cs.toArray) i hi ex ey (by simpa [Value.cells] using hn) hl (by simpa [Value.cells] using h1) h
theorem Jl{x:Operand}{n b o:Nat}{T:TypeId}{l:List Value} (cs:List Value) (i:Nat) (e:ev ρ x=.pointer (some ⟨b,o,none⟩)) (hi:(lk tk Ls L)[i]?=some (bx b T l)) (hn:cs.length=n) (hc:∀j u,cs[j]?=some u→l[o+j]?=some u)
  (h:gws P pan Qn s Ls (upd ρ t (.agg cs.toArray)) d L):gws P pan Qn (.op tk ⟨some t,none,.ld (some n) x⟩ s) Ls ρ d L:=
 w_q rfl ⟨b,o,cs,e,hn,fun j u hu=>Aj i hi (hc j u hu),rfl⟩ h
theorem Bx{x i:Operand}{sz b n c:Nat}{k:IntKind}{j:Int} (m:Nat) (ex:ev ρ x=.slice (some ⟨b,0,none⟩) n c) (ei:ev ρ i=.int k j) (hm:j=(m:Int)) (hl:m<n)
  (h:gws P pan Qn s Ls (upd ρ t (.pointer (some ⟨b,m*sz,none⟩))) d L):gws P pan Qn (.op tk ⟨some t,none,.idx sz x i⟩ s) Ls ρ d L:=
 BA (o:=0) m ex ei hm hl (SAd.some n b 0) (by rw [Aeh];exact h)
theorem R3{sz:Nat}{z cs:List Value}{x:Operand} (ex:ev ρ x=.agg cs.toArray) (hz:z.length=sz) (hc:cs.length=sz) (hs:sz≤16777216) (h:∀b T,gws P pan Qn s Ls (upd ρ t (.slice (some ⟨b,0,none⟩) 1 1)) d (bx b T cs::L)):
  gws P pan Qn (.op false ⟨some t,none,.bsl 1 sz z [(0,x)]⟩ s) Ls ρ d L:=by
 refine Dn (cs:=cs) (by omega) ?_ h
 simp only [Afj,List.map_nil,ex]
 rw [Kc (off:=0) (sz:=sz) (by simp) (by simpa [Value.cells] using hc) (by simp [Bp])]
 rw [Instr.fill,show(Value.agg cs.toArray).cells.toList=cs from rfl,P6 (by simp [Bp,hc])]
theorem Abk{x y:Operand}{k:IntKind}{a:Int}{cs:List Value} (ex:ev ρ x=.int k a) (ey:ev ρ y=.agg cs.toArray) (hc:cs.length=256) (h:gws P pan Qn s Ls (upd ρ t (.agg (Value.int k a::cs).toArray)) d L):
  gws P pan Qn (.op tk ⟨some t,none,.bld [(0,1),(1,256)] (Value.int .i64 0::CP) [(0,x),(1,y)]⟩ s) Ls ρ d L:=by
 refine BJ ?_ h
 simp only [Afj,List.map_nil,ex,ey]
 have e0:patch (Value.int .i64 0::CP) 0 (Value.int k a).cells.toList=Value.int k a::CP:=rfl
 have e2:patch (Value.int k a::CP) 1 (Value.agg cs.toArray).cells.toList=Value.int k a::cs:=by
  show List.take 1 (Value.int k a::CP)++cs++List.drop (1+cs.length) (Value.int k a::CP)=_
  rw [Aex (by rw [Acs,De];omega),Ads]
  rfl
 rw [Kc (off:=0) (sz:=1) rfl rfl (by rw [Acs];omega),e0,Kc (off:=1) (sz:=256) rfl (by simpa only [Value.cells,List.size_toArray] using hc) (by rw [Acs,De];omega),e2]
 rfl
theorem AaC{x:Operand}{n t1 t2:Nat}{v:Value}{l:List UInt8} (tk2:Bool) (ex:ev ρ x=v) (hr:AK d v l) (hl:l.length=n) (hn:n≠0) (k:∀p,gws P pan Qn s Ls (upd (upd ρ t1 p) t2 (.agg (l.map Ay).toArray)) d L):
  gws P pan Qn (.op tk ⟨some t1,none,.s2a n x⟩ (.op tk2 ⟨some t2,none,.ld (some n) (.tmp t1)⟩ s)) Ls ρ d L:=by
 obtain⟨a,c,b,o,rfl,h2,h3,h4,h5,h6,h7,h8⟩:=hr
 have ha:=h2 (by omega)
 subst ha
 refine w_q (v:=.pointer (some ⟨b,o,none⟩)) rfl ⟨_,_,_,ex,by omega,rfl⟩ ?_
 refine w_q rfl ⟨b,o,l.map Ay,by simp [ev,upd],by simpa using hl,fun i u hu=>?_,rfl⟩ (k _)
 rw [Aep] at hu
 cases hi:l[i]? with
 |none=>rw [hi] at hu;cases hu
 |some w=>
  rw [hi] at hu;cases hu
  obtain⟨hi',rfl⟩:=Acp.1 hi
  obtain⟨cs,k1,k2,k3⟩:=h8 i hi'
  have k3:cs=[Ay l[i]]:=k3
  subst k3
  rw [Aem] at k2
  exact BF k2.one
end
theorem Aq.at{α:Type}{sz:Nat}{R:Ac→List Value→α→Prop}{d:Ac}{v:Value}{xs:List α}{h:Ac} (hsz:0<sz) (o:Aq sz R d v xs h) {m:Nat} (hm:m<xs.length):
  ∃b T l c cs,v=.slice (some ⟨b,0,none⟩) xs.length c∧h=bx b T l∧cs.length=sz∧(∀j u,cs[j]?=some u→l[m*sz+j]?=some u)∧m*sz+sz≤l.length∧R d cs xs[m]∧
   ∀cs' x,cs'.length=sz→R d cs' x→Aq sz R d v (xs.set m x) (bx b T (patch l (m*sz) cs')):=by
 obtain⟨b,T,l,c,e1,e2,e3,e4⟩:=o.Abp hsz hm
 obtain⟨cs,⟨h1,h2,⟨q1,h0,q2⟩|⟨b',T',l',c',q1,q2,h3,h4,h5,h6⟩⟩,hr⟩:=o
 ·omega
 ·have hmz:m*sz+sz≤xs.length*sz:=by have:=Adu sz (show m+1≤xs.length from hm);rwa [Aer,Agn] at this
  have hbl:l'.toArray=l.toArray∧b'=b:=by
   rw [e2] at q2
   have:=(congrFun (congrFun q2 b) (.cells l.toArray T (0,0))).mp (CA _ _)
   obtain⟨z1,z2⟩:=GF this
   injection z2 with z3
   exact⟨z3.symm,z1.symm⟩
  have hl':l'=l:=by simpa using hbl.1
  subst hl'
  refine⟨b,T,l',c,chunk cs m sz,e1,e2,?_,fun j u hu=>?_,e3,hr m hm,e4⟩
  ·exact Iq h1 hm
  ·rw [IA] at hu
   split at hu
   ·rename_i hj
    rw [←h6,Aek] at hu
    split at hu
    ·exact hu
    ·cases hu
   ·cases hu
theorem Aq.zero{α:Type}{sz:Nat}{R:Ac→List Value→α→Prop}{d:Ac}{b n:Nat}{T:TypeId}{z:List Value}{x:α} (hz:z.length=sz) (_:0<sz) (hx:R d z x) (hn:n≤140737488355328):
  Aq sz R d (.slice (some ⟨b,0,none⟩) n n) (Acr n x) (bx b T (Bp z (n*sz))):=by
 refine Aq.lit (by simp) (by simp [Bp]) (by simpa using hn) (fun i hi=>?_)
 have hin:i<n:=by simpa using hi
 have:chunk (Bp z (n*sz)) i sz=z:=by
  refine Afg fun k=>?_
  rw [IA]
  by_cases hk:k<sz
  ·have h1:(i+1)*sz≤n*sz:=Adu sz hin
   rw [Aer,Agn] at h1
   rw [if_pos hk,Bp,Aep,List.getElem?_range (by omega),Aeq,hz,show i*sz+k=k+sz*i by rw [Nat.mul_comm];omega,Nat.add_mul_mod_self_left,Afd hk]
   rw [Acf,Ace (by omega)]
   simp
  ·rw [if_neg hk,Adq (by omega)]
 rw [this]
 simpa using hx
theorem Hm{l cs:List Value}{o j:Nat}{x:Value} (hc:∀i u,cs[i]?=some u→l[o+i]?=some u) (hj:j<cs.length) (hl:o+cs.length≤l.length):patch l (o+j) [x]=patch l o (cs.set j x):=by
 refine Afg fun k=>?_
 rw [CB (by simp;omega),CB (by simp;omega)]
 simp only [Acs,Aen,Adf]
 by_cases h1:o≤k∧k<o+cs.length
 ·rw [if_pos h1]
  by_cases h2:k=o+j
  ·subst h2
   rw [if_pos (by omega),Afy,show o+j - o=j by omega,List.getElem?_set_self hj];rfl
  ·rw [if_neg (by omega),List.getElem?_set_ne (by omega)]
   have:=hc (k - o) cs[k - o] (Ace (by omega))
   rw [show o+(k - o)=k by omega] at this
   rw [this,Ace (by omega)]
 ·rw [if_neg h1,if_neg (by omega)]
theorem Aw.reorder{P:Program}{f:FuncId}{args:List Value}{d:Ac}{L L1:List Ac}{R:Ending→Ac→List Ac→Prop} (p:L.Perm L1) (h:Aw P f args d L1 R):Aw P f args d L R:=Aw.vs (Vs.perm p) h
end Go.Gk
namespace Go.Gk
open Go
def CS(P:Program) (f:FuncId) (args:List Value) (d:Ac) (L:List Ac) (v:Value):Prop:=Aw P f args d L (Ret fun r d' L'=>r=v∧d'=d∧L'=L)
section
variable {P:Program}{pan:List PanicEntry→AR}{Qn:Env→AR}{Ls L:List Ac}{ρ:Env}{d:Ac}{s:GS}{t:Nat}
theorem CK{f:FuncId}{args:List Operand}{vs:List Value}{v:Value}{A B:List Ac} (hL:L=A++B) (ea:args.map (ev ρ)=vs) (hc:CS P f vs d A v) (h:gws P pan Qn s Ls (upd ρ t v) d L):
  gws P pan Qn (.op false ⟨some t,none,.call f args⟩ s) Ls ρ d L:=
 Dx hL ea hc (fun r d' L' _ ⟨h1,h2,h3⟩=>by subst h1;subst h2;subst h3;rw [←hL];exact h)
theorem Pr{f:FuncId}{args:List Operand}{R:Value→Ac→List Ac→Prop}{vs:List Value}{A B:List Ac} (hL:L=A++B) (ea:args.map (ev ρ)=vs) (hc:Aw P f vs d A (Ret R))
  (h:∀v d' L',Le d d'→R v d' L'→gws P pan Qn s Ls (upd ρ t v) d' (L'++B)):gws P pan Qn (.op false ⟨some t,none,.call f args⟩ s) Ls ρ d L:=Dx hL ea hc h
theorem JO{v:Value}{L1:List Ac} (e:ρ t=v) (hs:L1.Sublist L):Cy [.tmp t] (Ret fun r d' L'=>r=v∧d'=d∧L'=L1) ρ d L:=BE e hs ⟨rfl,rfl,rfl⟩
theorem Y0{u:Nat}{v w:Value}{L1:List Ac} (e:ρ t=v) (e':ρ u=w) (hs:L1.Sublist L):Cy [.tmp t,.tmp u] (Ret fun r d' L'=>r=.tuple #[v,w]∧d'=d∧L'=L1) ρ d L:=CF e e' hs ⟨rfl,rfl,rfl⟩
end
end Go.Gk
namespace Go.Gk
open Go
theorem Aal{P:Program}{Q:B2}{ρ:Env}{d:Ac}{L:List Ac}{f:Operand}{ps:List Nat}{as bd:Ck}{g:FuncId}{first cap:Array Value} (ef:ev ρ f=.func (.func g) first cap)
  (h:∀l rc,QF P ρ ps as bd rc→rc.state=.ready→rc.pending=none→Aw P g (first.toList++[.func (.yield l) #[] #[]]++cap.toList) d (sg l (.loop rc)::L)
   (Ret fun _ d' L'=>∃rc' L'',L'=sg l (.loop rc')::L''∧rc'.state≠.busy∧(match rc'.pending with|none=>Q.n ρ d' L''|some (.exit id)=>Q.ex id ρ d' L''|some .ret=>Q.ret ρ d' L''|_=>False))):xwp P (.rf f ps as bd) Q ρ d L:=
 ⟨g,first,cap,ef,fun l rc h1 h2 h3=>⟨_,h l rc h1 h2 h3,fun e d' L' _ hr=>by
  cases e with
  |returned v=>obtain⟨rc',L'',k1,k2,k3⟩:=hr;exact⟨v,rc',L'',rfl,k1,k2,k3⟩
  |panicked c=>exact hr.elim
  |outgrown=>exact hr.elim⟩⟩
theorem TJ{rc:Loop} (h1:rc.state=.ready) (h2:rc.pending=none):{rc with state:=.ready,pending:=none}=rc:=by
 cases rc;simp only at h1 h2;subst h1;subst h2;rfl
end Go.Gk
namespace Go.Gk
open Go
section
variable {P:Program}{pan:List PanicEntry→AR}{Qn:Env→AR}{Ls L:List Ac}{ρ:Env}{d:Ac}{s:GS}{t:Nat}
theorem OL{f:FuncId}{args:List Operand}{R:Value→Ac→List Ac→Prop}{vs:List Value}{A B:List Ac} (hp:L.Perm (A++B)) (ea:args.map (ev ρ)=vs) (hc:Aw P f vs d A (Ret R))
  (h:∀v d' L',Le d d'→R v d' L'→∃d2 L2,Vs d' (L'++B) d2 L2∧gws P pan Qn s Ls (upd ρ t v) d2 L2):gws P pan Qn (.op false ⟨some t,none,.call f args⟩ s) Ls ρ d L:=by
 refine Cd d (A++B) (Vs.perm hp) ⟨d,A++B,Vs.refl d _,.inl ⟨A,B,Ret R,rfl,by rw [ea];exact hc,fun e d' L' hl hr=>?_⟩⟩
 cases e with
 |returned v=>exact h v d' L' hl hr
 |panicked c=>exact hr.elim
 |outgrown=>exact hr
theorem C4{f:FuncId}{args:List Operand}{R:Value→Ac→List Ac→Prop}{vs:List Value}{A B:List Ac} (hc:Aw P f vs d A (Ret R)) (hp:L.Perm (A++B)) (ea:args.map (ev ρ)=vs)
  (h:∀v d' L',Le d d'→R v d' L'→∃d2 L2,Vs d' (L'++B) d2 L2∧gws P pan Qn s Ls (upd ρ t v) d2 L2):gws P pan Qn (.op false ⟨some t,none,.call f args⟩ s) Ls ρ d L:=OL hp ea hc h
theorem D2{f:FuncId}{args:List Operand}{R:Value→Ac→List Ac→Prop}{vs:List Value} (hc:Aw P f vs d L (Ret R)) (ea:args.map (ev ρ)=vs)
  (h:∀v d' L',Le d d'→R v d' L'→gws P pan Qn s Ls (upd ρ t v) d' L'):gws P pan Qn (.op false ⟨some t,none,.call f args⟩ s) Ls ρ d L:=
 Dx (B:=[]) (Ads _).symm ea hc (fun v d' L' hl hr=>by rw [Ads];exact h v d' L' hl hr)
theorem LS{f:FuncId}{args:List Operand}{vs:List Value}{v:Value}{A B:List Ac} (hp:L.Perm (A++B)) (ea:args.map (ev ρ)=vs) (hc:CS P f vs d A v) (h:gws P pan Qn s Ls (upd ρ t v) d L):
  gws P pan Qn (.op false ⟨some t,none,.call f args⟩ s) Ls ρ d L:=
 OL hp ea hc (fun r d' L' _ ⟨h1,h2,h3⟩=>by subst h1;subst h2;subst h3;exact⟨d',L,Vs.perm hp.symm,h⟩)
end
theorem RK{l cs:List Value}{o j:Nat}{u:Value} (hl:o+cs.length≤l.length) (hu:cs[j]?=some u):(patch l o cs)[o+j]?=some u:=by
 have:=(Acp.1 hu).1
 rw [CB hl,if_pos (by omega),show o+j - o=j by omega,hu]
theorem SP{l cs ds:List Value}{o:Nat} (hl:o+cs.length≤l.length) (he:ds.length=cs.length):patch (patch l o cs) o ds=patch l o ds:=by
 refine Afg fun k=>?_
 rw [CB (l:=patch l o cs) (by rw [Bt hl];omega),CB (l:=l) (vs:=cs) hl,CB (l:=l) (vs:=ds) (by omega)]
 by_cases h:o≤k∧k<o+ds.length
 ·rw [if_pos h,if_pos h]
 ·rw [if_neg h,if_neg h,if_neg (by omega)]
theorem Va{l cs:List Value}{o j:Nat}{x:Value} (hj:j<cs.length) (hl:o+cs.length≤l.length):patch (patch l o cs) (o+j) [x]=patch l o (cs.set j x):=by
 rw [Hm (cs:=cs) (fun i u hu=>RK hl hu) hj (by rw [Bt hl];exact hl),SP hl (by simp)]
end Go.Gk
namespace Go.Gk
open Go
section
variable {P:Program}{pan:List PanicEntry→AR}{Qn:Env→AR}{Ls L:List Ac}{ρ:Env}{d:Ac}{s:GS}{t:Nat}
theorem YG{by_:Nat}{x:Operand}{k:IntKind}{n:Nat} (ex:ev ρ x=.int k (n:Nat)) (h1:by_*n+112≤281474976710656) (h2:n<9223372036854775808)
  (h:∀b,gws P pan Qn s Ls (upd ρ t (.chan (some b))) d (sg b (.chan n #[] false 0 0 false)::L)):gws P pan Qn (.op false ⟨some t,none,.mop (.mkc by_ x)⟩ s) Ls ρ d L:=
 ⟨d,L,Vs.refl d L,by simp only [gop,gi,mi];exact⟨k,n,ex,h1,h2,fun b=>⟨_,_,Vs.refl _ _,h b⟩⟩⟩
end
end Go.Gk
namespace Go.Gk
open Go
section
variable {P:Program}{pan:List PanicEntry→AR}{Qn:Env→AR}{Ls L:List Ac}{ρ:Env}{d:Ac}{s:GS}{t:Nat}
end
end Go.Gk
namespace Go.Gk
open Go
section
variable {P:Program}{pan:List PanicEntry→AR}{Qn:Env→AR}{Ls L:List Ac}{ρ:Env}{d:Ac}{s:GS}{t:Nat}{tk:Bool}
theorem AaB{neg:Bool}{x y:Operand}{a:Option Addr} (ex:ev ρ x=.pointer a) (ey:ev ρ y=.pointer a) (h:gws P pan Qn s Ls (upd ρ t (.bool (!neg))) d L):
  gws P pan Qn (.op tk ⟨some t,none,.eqp neg x y⟩ s) Ls ρ d L:=w_q rfl ⟨a,a,ex,ey,by cases a;exact .inl rfl;exact .inr (.inr rfl),by cases neg<;>simp⟩ h
theorem AaK{neg:Bool}{x y:Operand}{b:Nat} (ex:ev ρ x=.map (some b)) (ey:ev ρ y=.map none) (h:gws P pan Qn s Ls (upd ρ t (.bool neg)) d L):
  gws P pan Qn (.op tk ⟨some t,none,.eqm neg x y⟩ s) Ls ρ d L:=w_q rfl ⟨some b,ex,ey,by cases neg<;>rfl⟩ h
theorem Aa4{T:TypeId}{x:Operand}{v:Value} (ex:ev ρ x=.iface T v) (h:gws P pan Qn s Ls (upd ρ t v) d L):
  gws P pan Qn (.op tk ⟨some t,none,.tas T x⟩ s) Ls ρ d L:=w_q rfl ex h
theorem Abu{x:Operand}{T:TypeId}{b c:Nat}{es:Array MapEntry} (ex:ev ρ x=.iface T (.map (some b))) (hm:HO d (Ls++L++L) b (.map es c)) (h:∀q,gws P pan Qn s Ls (upd ρ t (.iface T (.map (some q)))) d (sg q (.map es c)::L)):
  gws P pan Qn (.op false ⟨some t,none,.mop (.cln x)⟩ s) Ls ρ d L:=
 ⟨d,L,Vs.refl d L,by simp only [gop,gi,mi];exact⟨T,b,es,c,ex,hm,fun q=>⟨_,_,Vs.refl _ _,h q⟩⟩⟩
end
end Go.Gk
namespace Go.Gk
open Go
theorem Hw{P:Program}{pan:List PanicEntry→AR}{Qn:Env→AR}{Ls L:List Ac}{ρ:Env}{d:Ac} (h:∃d1 L1,Vs d (Ls++L) d1 L1∧Qn ρ d1 L1):gws P pan Qn .done Ls ρ d L:=h
end Go.Gk
end
section
namespace Go.Gk.Dev
open Go Go.Gk
attribute [local irreducible] gwp gws xwp
abbrev Sec:=List UInt8
structure Eo where
 syn:List Sec
 opn:List (Nat×Sec)
def RR(_:Ac) (cs:List Value) (x:Sec):Prop:=cs=x.map Ay∧x.length=256
def RWr(_:Ac) (cs:List Value) (x:Nat×Sec):Prop:=cs=.int .i64 x.1::x.2.map Ay∧x.2.length=256
theorem Yj:F3 RR:=fun _ h=>h
theorem ZF:F3 RWr:=fun _ h=>h
theorem Sg:Fy RWr:=fun _ _ _ h=>by obtain⟨rfl,_⟩:=h;rw [Agy,CC];rfl
def II:Sec:=Acr 256 0
theorem AaT{d:Ac}:RR d CP II:=⟨by rw [II,List.map_replicate];rfl,Adn⟩
def FC(k:Nat):List (Nat×Sec)→Option Sec
 |[]=>none
 |w::l=>match FC k l with|some b=>some b|none=>if w.1=k then some w.2 else none
def Eo.cur(D:Eo) (k:Nat):Sec:=(FC k D.opn).getD (D.syn.getD k [])
def synced(l:List (Nat×Sec)) (s:List Sec):List Sec:=l.foldl (fun s w=>s.set w.1 w.2) s
theorem Ev(l:List (Nat×Sec)):∀s,(synced l s).length=s.length:=by
 induction l with
 |nil=>exact fun _=>rfl
 |cons w l ih=>intro s;rw [synced,Ags];exact(ih _).trans (Adf ..)
theorem IK(l:List (Nat×Sec)) (w:Nat×Sec) (s:List Sec):synced (l++[w]) s=(synced l s).set w.1 w.2:=by simp [synced]
def Dv(d:Ac) (D:Eo) (v:Value) (L:List Ac):Prop:=
 ∃b T vs vo r hs ho,v=.pointer (some ⟨b,0,none⟩)∧L=[bx b T [vs,vo,.int .i64 r,.int .i64 0],hs,ho]∧Aq 256 RR d vs D.syn hs∧Aq 257 RWr d vo D.opn ho∧(∀w∈D.opn,w.1<D.syn.length)∧D.syn.length≤8192
theorem Dv.mono{d d':Ac}{D:Eo}{v:Value}{L:List Ac} (h:Dv d D v L) (hl:Le d d'):Dv d' D v L:=
 let ⟨b,T,vs,vo,r,hs,ho,h1,h2,h3,h4,h5,h6⟩:=h
 ⟨b,T,vs,vo,r,hs,ho,h1,h2,Aq.mono (R:=RR) Yj h3 hl,Aq.mono (R:=RWr) ZF h4 hl,h5,h6⟩
def Hz(P:Program) (f:FuncId):Prop:=∀{d:Ac}{D:Eo}{v:Value}{L:List Ac},Dv d D v L→CS P f [v] d L (.int .i64 D.syn.length)
def JQ:AY:=⟨10,[(.tmp 2)],(sR (o1 2 (.mv (kZ 0)) .done) (.seq (sR (om 3 0<|o1 4 (.eqp false (tP 3) (.const (.pointer none))) .done) (.cond (tP 4) (sR (o1 2 (.mv (kZ 0)) .done) .ret) .skip)) (sR (om 5 0<|o1 6 (.nilc (tP 5))<|oj 7 0 6<|ol 8 7<|oL 9 8<|om 2 9 .done) .ret)))⟩
theorem XP{P:Program}{f:FuncId} (hd:dec P f=some JQ):Hz P f:=by
 intro d D v L h
 obtain⟨b,T,vs,vo,r,hs,ho,rfl,rfl,h3,h4,h5,h6⟩:=h
 refine AG hd (Aca rfl) ?_
 show gwp P _ _ _ _ _
 (refine Ad<|Ab rfl<|Aa<|Ah<|Ad<|Al rfl<|C7 rfl rfl<|Aa<|AS rfl<|Ak<|Ad<|Al rfl<|Au rfl<|Ai rfl<|Ag rfl (Aj 0 rfl rfl)<|VE rfl (by assumption)<|Ab rfl<|Aa<|An ?_)
 exact JO rfl (Acb _)
def HM(P:Program) (f:FuncId):Prop:=∀{d:Ac}{D:Eo}{v:Value}{L:List Ac}{k n:Nat},Dv d D v L→k<D.syn.length→n=256→CS P f [v,.int .i64 k,.int .i64 n] d L (.int .i64 0)
def I8(a0:Nat):AY:=⟨32,[(.tmp 6)],(sR (o1 6 (.mv (kZ 0)) .done) (.seq (.block 0 (sR (om 8 0<|oc 9 a0 [(tP 8)]<|ob 10 .eql (tP 9) (kZ 0)<|om 7 10 .done) (.cond (tP 7) (sR (o1 6 (.mv (kZ 1)) .done) .ret) (sR (om 12 1<|ob 13 .lss (tP 12) (kZ 0)<|om 14 13<|gF 15 14 1<|gF 16 14 0<|oF 17 14 (.nilc (tP 16))<|oF 18 14 (.fld 0 (tP 17))<|oF 19 14 (.ld none (tP 18))<|oF 20 14 (.len (tP 19))<|oF 21 14 (.bin .geq (tP 15) (tP 20))<|o1 22 (.pick (tP 14) (.const (.bool true)) (tP 21))<|om 11 22 .done) (.cond (tP 11) (sR (o1 6 (.mv (kZ 4)) .done) .ret) (sR (om 24 2<|ob 25 .neq (tP 24) (kZ 256)<|om 23 25 .done) (.cond (tP 23) (sR (o1 6 (.mv (kZ 2)) .done) .ret) (sR (om 27 0<|o1 28 (.nilc (tP 27))<|oj 29 3 28<|ol 30 29<|ob 31 .eql (tP 30) (kZ 1)<|om 26 31 .done) (.cond (tP 26) (sR (o1 6 (.mv (kZ 150)) .done) .ret) .skip))))))))) (sR (o1 6 (.mv (kZ 0)) .done) .ret)))⟩
theorem VC{P:Program}{f f1:FuncId} (hd:dec P f=some (I8 f1)) (h1:Hz P f1):HM P f:=by
 intro d D v L k n h hk hn
 have h0:=h
 obtain⟨b,T,vs,vo,r,hs,ho,rfl,rfl,h3,h4,h5,h6⟩:=h
 refine AG hd (Aca rfl) ?_
 show gwp P _ _ _ _ _
 (refine Ad<|Ab rfl<|Aa<|Ah<|Az<|Ad<|Al rfl ?_)
 refine CK (B:=[]) rfl rfl (h1 h0) ?_
 (refine AJ rfl rfl<|Ae rfl<|Aa<|Ar rfl (by omega)<|Ad<|Ab rfl<|AE rfl rfl<|Ae rfl<|Bc rfl (by omega)<|Af rfl<|Ab rfl<|Af rfl<|Al rfl<|Af rfl<|Au rfl<|Af rfl<|Ai rfl<|Af rfl<|Ag rfl (Aj 0 rfl rfl)<|Af rfl<|VE rfl (by assumption)<|Af rfl<|DG rfl rfl<|As rfl rfl<|Ae rfl<|Aa<|Ar rfl (by omega)<|Ad<|Ab rfl<|AQ rfl rfl<|Ae rfl<|Aa<|Ar rfl (by omega)<|Ad<|Al rfl<|Au rfl<|Ai rfl<|Ag rfl (Aj 0 rfl rfl)<|AJ rfl rfl<|Ae rfl<|Aa<|Ar rfl (by omega)<|Ak<|Ad<|Ab rfl<|Aa<|An ?_)
 exact JO rfl (Acb _)
def LM(P:Program) (f:FuncId):Prop:=∀{d:Ac}{D:Eo}{v:Value}{L:List Ac},Dv d D v L→Aw P f [v] d L (Ret fun _ d' L'=>d'=d∧L'=L)
def JS:AY:=⟨14,[],(sR (om 2 0<|o1 3 (.nilc (tP 2))<|oj 4 3 3<|ol 5 4<|ob 6 .gtr (tP 5) (kZ 1) .done) (.cond (tP 6) (rG (om 7 0<|o1 8 (.nilc (tP 7))<|oj 9 3 8<|ol 10 9<|ob 11 .sub (tP 10) (kZ 1)<|o1 12 (.nilc (tP 7))<|oj 13 3 12<|o0 (.st 1 (tP 13) (tP 11)) .done)) .skip))⟩
theorem Xf{P:Program}{f:FuncId} (hd:dec P f=some JS):LM P f:=by
 intro d D v L h
 obtain⟨b,T,vs,vo,r,hs,ho,rfl,rfl,h3,h4,h5,h6⟩:=h
 refine AG hd (Aca rfl) ?_
 show gwp P _ _ _ _ _
 (refine Ad<|Al rfl<|Au rfl<|Ai rfl<|Ag rfl (Aj 0 rfl rfl)<|BQ rfl rfl<|Aa<|Ar rfl (by omega)<|Ak ?_)
 exact EF [] trivial (Acb _) ⟨rfl,rfl⟩
def Nf(P:Program) (f:FuncId):Prop:=∀{d:Ac}{n:Nat},1≤n→n≤8192→Aw P f [.int .i64 n] d [] (Ret fun r d' L'=>∃v,r=.tuple #[v,.int .i64 0]∧d'=d∧Dv d ⟨Acr n II,[]⟩ v L')
def Ry:AY:=⟨14,[(.tmp 2),(.tmp 3)],(sR (o1 2 (.mv (.const (.pointer none)))<|o1 3 (.mv (kZ 0)) .done) (.seq (sR (om 4 0<|ob 5 .lss (tP 4) (kZ 1)<|om 6 5<|gF 7 6 0<|oF 8 6 (.bin .gtr (tP 7) (kZ 8192))<|o1 9 (.pick (tP 6) (.const (.bool true)) (tP 8)) .done) (.cond (tP 9) (sR (o1 2 (.mv (.const (.pointer none)))<|o1 3 (.mv (kZ 2)) .done) .ret) .skip)) (sR (om 10 0<|o1 11 (.mks 256 256 CP (tP 10) (tP 10))<|o1 12 (.bld [(0,1),(1,1),(2,1),(3,1)] [(.slice none 0 0),(.slice none 0 0),(.int .i64 0),(.int .i64 0)] [(0,(tP 11))])<|o1 13 (.box (tP 12))<|om 2 13<|o1 3 (.mv (kZ 0)) .done) .ret)))⟩
theorem Zv{P:Program}{f:FuncId} (hd:dec P f=some Ry):Nf P f:=by
 intro d n h1 h2
 refine AG hd (Aca rfl) ?_
 show gwp P _ _ _ _ _
 (refine Ad<|Al rfl<|Ab rfl<|Aa<|Ah<|Ad<|Ab rfl<|AE rfl rfl<|Ae rfl<|Bc rfl (by omega)<|Af rfl<|Ab rfl<|Af rfl<|BQ rfl rfl<|As rfl rfl<|Aa<|Ar rfl (by omega)<|Ak<|Ad<|Ab rfl ?_)
 refine Hn rfl rfl (Ach n) (by omega) (by omega) (fun b T=>?_)
 (refine BJ rfl<|Cr rfl (fun _ _=>Al rfl<|Ab rfl<|Aa<|An ?_))
 rename_i b2 T2
 refine Ba [_,_] ⟨rfl,rfl,trivial⟩ (d':=d) (L':=[bx b2 T2 [.slice (some ⟨b,0,none⟩) n n,.slice none 0 0,.int .i64 0,.int .i64 0],bx b T (Bp CP (n*256)),emp]) ?_ ⟨_,rfl,rfl,_,_,_,_,_,_,_,rfl,rfl,?_,Aq.nil,fun w hw=>(by cases hw),by simpa using h2⟩
 ·exact(Vs.emp).trans (Vs.perm (Ack (l₁:=[emp])))
 ·exact Aq.zero De (by omega) AaT (by omega)
def MU(P:Program) (f:FuncId):Prop:=∀{d:Ac}{D:Eo}{v w:Value}{L:List Ac}{k:Nat}{l:Sec},Dv d D v L→k<D.syn.length→AK d w l→l.length=256→D.opn.length≤1000000→
 Aw P f [v,.int .i64 k,w] d L (Ret fun r d' L'=>r=.int .i64 0∧d'=d∧Dv d ⟨D.syn,D.opn++[(k,l)]⟩ v L')
def Jc(a0 a1:Nat):AY:=⟨32,[(.tmp 6)],(sR (o1 6 (.mv (kZ 0)) .done) (.seq (sR (om 8 0<|om 9 1<|om 10 2<|oL 11 10<|oc 12 a0 [(tP 8),(tP 9),(tP 11)]<|om 7 12 .done) (sR (om 13 7<|ob 14 .neq (tP 13) (kZ 0) .done) (.cond (tP 14) (sR (om 15 7<|om 6 15 .done) .ret) .skip))) (.seq (.reg true (pm 16 0<|pm 17 0<|p1 18 (.nilc (tP 17))<|p1 19 (.fld 1 (tP 18))<|pm 21 1<|pm 22 2<|p1 23 (.s2a 256 (tP 22))<|p1 24 (.ld (some 256) (tP 23))<|p1 25 (.bld [(0,1),(1,256)] (Value.int .i64 0::CP) [(0,(tP 21)),(1,(tP 24))]) (.alt ⟨(some 20),none,(.ld none (tP 19))⟩ (o1 26 (.bsl 1 257 (Value.int .i64 0::CP) [(0,(tP 25))]) (o1 27 (.app 257 264 (Value.int .i64 0::CP) (tP 20) (tP 26)) (p1 28 (.nilc (tP 16)) (p1 29 (.fld 1 (tP 28)) (o0 (.st 1 (tP 29) (tP 27)) .done))))) (o1 26 (.bsl 1 257 (Value.int .i64 0::CP) [(0,(tP 25))]) (ol 20 19 (o1 27 (.app 257 264 (Value.int .i64 0::CP) (tP 20) (tP 26)) (p1 28 (.nilc (tP 16)) (p1 29 (.fld 1 (tP 28)) (o0 (.st 1 (tP 29) (tP 27)) .done))))))))) (sR (om 30 0<|oc 31 a1 [(tP 30)] .done) (sR (o1 6 (.mv (kZ 0)) .done) .ret)))))⟩
theorem Wm{P:Program}{f f1 f2:FuncId} (hd:dec P f=some (Jc f1 f2)) (h1:HM P f1) (h2:LM P f2):MU P f:=by
 intro d D v w L k l h hk hw hl hn
 have h0:=h
 obtain⟨b,T,vs,vo,r,hs,ho,rfl,rfl,h3,h4,h5,h6⟩:=h
 refine AG hd (Aca rfl) ?_
 show gwp P _ _ _ _ _
 (refine Ad<|Ab rfl<|Aa<|Ah<|Ad<|Al rfl<|Ab rfl<|AL<|BG rfl (by assumption) ?_)
 refine CK (B:=[]) rfl rfl (h1 h0 hk hl) ?_
 (refine Ab rfl<|Aa<|Ad<|Ab rfl<|AQ rfl rfl<|Aa<|Ar rfl (by omega)<|Ak<|Ah ?_)
 refine Bv [] _ rfl ?_
 (refine Al rfl<|Al rfl<|Au rfl<|Ai rfl<|Ab rfl<|AL ?_)
 refine AaC true rfl hw hl (by omega) (fun p=>?_)
 refine Abk rfl rfl (by rw [Adw];exact hl) ?_
 have hcl:(Value.int .i64 (k:Int)::l.map Ay).length=257:=by rw [Acs,Adw];omega
 have hwr:RWr d (Value.int .i64 (k:Int)::l.map Ay) (k,l):=⟨rfl,hl⟩
 refine Es ?_ ?_
 ·(apply Ag;rfl;exact Aj 0 rfl rfl)
  refine R3 rfl (by rw [Acs,De]) hcl (by omega) (fun b2 T2=>?_)
  skip
  refine D9 (R:=RWr) 2 rfl rfl h4 rfl (Aq.Em hcl hwr) Sg (by omega) (by simp;omega) (by simp;omega) (fun v' h' ho'=>?_)
  (refine Au rfl<|Ai rfl ?_)
  obtain⟨av,cv,rfl⟩:=ho'.val
  refine AZ 0 [vs,.slice av (D.opn++[(k,l)]).length cv,.int .i64 r,.int .i64 0] rfl rfl rfl rfl (Aca rfl) rfl rfl ?_
  have hD:Dv d ⟨D.syn,D.opn++[(k,l)]⟩ (.pointer (some ⟨b,0,none⟩)) [bx b T [vs,.slice av (D.opn++[(k,l)]).length cv,.int .i64 r,.int .i64 0],hs,h']:=
   ⟨b,T,vs,_,r,hs,h',rfl,rfl,h3,ho',fun w hw=>by
    rcases Acj.1 hw with hw|hw
    ·exact h5 w hw
    ·cases Acv.1 hw;exact hk,h6⟩
  (refine Aa<|Ad<|Al rfl ?_)
  refine Pr (B:=[]) rfl rfl (h2 hD) (fun u d' L' _ ⟨e1,e2⟩=>?_)
  subst e1;subst e2
  (refine Aa<|Ad<|Ab rfl<|Aa<|An ?_)
  exact BE rfl (Acb _) ⟨rfl,rfl,hD⟩
 ·refine R3 rfl (by rw [Acs,De]) hcl (by omega) (fun b2 T2=>?_)
  (apply Ag;rfl;exact Aj 1 rfl rfl)
  refine D9 (R:=RWr) 2 rfl rfl h4 rfl (Aq.Em hcl hwr) Sg (by omega) (by simp;omega) (by simp;omega) (fun v' h' ho'=>?_)
  (refine Au rfl<|Ai rfl ?_)
  obtain⟨av,cv,rfl⟩:=ho'.val
  refine AZ 0 [vs,.slice av (D.opn++[(k,l)]).length cv,.int .i64 r,.int .i64 0] rfl rfl rfl rfl (Aca rfl) rfl rfl ?_
  have hD:Dv d ⟨D.syn,D.opn++[(k,l)]⟩ (.pointer (some ⟨b,0,none⟩)) [bx b T [vs,.slice av (D.opn++[(k,l)]).length cv,.int .i64 r,.int .i64 0],hs,h']:=
   ⟨b,T,vs,_,r,hs,h',rfl,rfl,h3,ho',fun w hw=>by
    rcases Acj.1 hw with hw|hw
    ·exact h5 w hw
    ·cases Acv.1 hw;exact hk,h6⟩
  (refine Aa<|Ad<|Al rfl ?_)
  refine Pr (B:=[]) rfl rfl (h2 hD) (fun u d' L' _ ⟨e1,e2⟩=>?_)
  subst e1;subst e2
  (refine Aa<|Ad<|Ab rfl<|Aa<|An ?_)
  exact BE rfl (Acb _) ⟨rfl,rfl,hD⟩
def OV(P:Program) (f:FuncId):Prop:=∀{d:Ac}{D:Eo}{v:Value}{L:List Ac},Dv d D v L→1≤D.syn.length→
 Aw P f [v] d L (Ret fun r d' L'=>r=.int .i64 0∧d'=d∧Dv d ⟨synced D.opn D.syn,[]⟩ v L')
def JJ(a0 a1:Nat):AY:=⟨35,[(.tmp 2)],(sR (o1 2 (.mv (kZ 0)) .done) (.seq (sR (om 6 0<|oc 7 a0 [(tP 6),(kZ 0),(kZ 256)]<|om 3 7 .done) (sR (om 8 3<|ob 9 .neq (tP 8) (kZ 0) .done) (.cond (tP 9) (sR (om 10 3<|om 2 10 .done) .ret) .skip))) (.seq (sR (om 11 0<|o1 12 (.nilc (tP 11))<|oj 13 1 12<|ol 14 13<|oL 15 14<|o1 16 (.mv (kZ 0)) .done) (.block 0 (.loop (sR (ob 17 .lss (tP 16) (tP 15) .done) (.seq (.cond (tP 17) .skip (.exit 0)) (.seq (.block 1 (sR (oI 18 257 14 16<|o1 19 (.ld (some 257) (tP 18))<|o1 5 (.alo (.agg (Value.int .i64 0::CP).toArray))<|o0 (.st 257 (tP 5) (tP 19)) .done) (.reg true (pm 20 0<|p1 21 (.nilc (tP 20))<|p1 22 (.fld 0 (tP 21))<|pl 23 22<|p1 24 (.fld 0 (tP 5))<|pl 25 24<|p1 26 (.fld 1 (tP 5))<|p1 27 (.ld (some 256) (tP 26))<|p1 28 (.idx 256 (tP 23) (tP 25)) (.bar (o0 (.st 256 (tP 28) (tP 27)) .done)))))) (rG (ob 29 .add (tP 16) (kZ 1)<|om 16 29 .done)))))))) (sR (om 30 0<|o1 31 (.nilc (tP 30))<|oj 32 1 31<|o0 (.st 1 (tP 32) nS) .done) (sR (om 33 0<|oc 34 a1 [(tP 33)] .done) (sR (o1 2 (.mv (kZ 0)) .done) .ret))))))⟩
theorem Yt{P:Program}{f f1 f2:FuncId} (hd:dec P f=some (JJ f1 f2)) (h1:HM P f1) (h2:LM P f2):OV P f:=by
 intro d D v L h hk
 have h0:=h
 obtain⟨b,T,vs,vo,r,hs,ho,rfl,rfl,h3,h4,h5,h6⟩:=h
 obtain⟨ao,co,rfl⟩:=h4.val
 have hlen:=h4.BZ
 refine AG hd (Aca rfl) ?_
 show gwp P _ _ _ _ _
 (refine Ad<|Ab rfl<|Aa<|Ah<|Ad<|Al rfl ?_)
 refine CK (B:=[]) rfl rfl (h1 (n:=256) (k:=0) h0 hk rfl) ?_
 (refine Ab rfl<|Aa<|Ad<|Ab rfl<|AQ rfl rfl<|Aa<|Ar rfl (by omega)<|Ak<|Ah<|Ad<|Al rfl<|Au rfl<|Ai rfl<|Ag rfl (Aj 0 rfl rfl)<|AN rfl<|Ab rfl<|Aa<|Az ?_)
 refine CL (α:=Nat×Ac) (fun x=>[(0,.pointer (some ⟨b,0,none⟩)),(14,.slice ao D.opn.length co),(15,.int .i64 D.opn.length),(16,.int .i64 x.1)])
  (fun x d' L'=>d'=d∧x.1≤D.opn.length∧L'=[bx b T [vs,.slice ao D.opn.length co,.int .i64 r,.int .i64 0],x.2,ho]∧Aq 256 RR d vs (synced (D.opn.take x.1) D.syn) x.2) (fun x=>D.opn.length - x.1) (0,hs)
  ⟨rfl,rfl,rfl,rfl,trivial⟩ ⟨rfl,by omega,rfl,h3⟩ ?_
 rintro⟨i,hs'⟩ ρ d' L' ⟨rfl,hi,rfl,hg⟩
 simp only at hi hg⊢
 by_cases e:i<D.opn.length
 ·obtain⟨bo,To,lo,co',cs,e1,e2,hcl,hcs,hle,hr, -⟩:=Aq.at (by omega) h4 e
  cases e1;subst e2
  obtain⟨rfl,hbl⟩:=hr
  have hin:D.opn[i].1<(synced (D.opn.take i) D.syn).length:=by rw [Ev];exact h5 _ (Ada e)
  obtain⟨bs,Ts,ls,cs',us,rfl,rfl,hul,hus,hsle, -,hset⟩:=Aq.at (by omega) hg hin
  (refine Ad<|AE rfl rfl<|Aa<|Ah<|Ax rfl (by omega)<|Ak<|Ah<|Az<|Ad<|Bx _ rfl rfl rfl (by omega) ?_)
  refine Jl _ 2 rfl rfl hcl hcs ?_
  (apply BX;intro _ _)
  refine Jr 0 rfl rfl rfl hcl (by rw [Acs,De]) (by rw [Agy,CC];rfl) ?_
  (refine Aa<|Bs<|Al rfl<|Au rfl<|Ai rfl<|Ag rfl (Aj 1 rfl rfl)<|Ai rfl<|Ag rfl (Aj 0 rfl rfl)<|Ai rfl ?_)
  refine Jl (D.opn[i].2.map Ay) 0 rfl rfl (by rw [Adw];exact hbl) (fun j u hu=>by rw [Nat.add_comm];simpa using hu) ?_
  (refine Bx _ rfl rfl rfl (by omega)<|B5 ?_)
  refine Bo 2 rfl rfl rfl (by rw [Adw];exact hbl) hsle (CC _) ?_
  refine FF ⟨_,[_,_,_],Vs.drop (Acz _ _),?_⟩
  (refine AA<|AO rfl rfl (by omega) (by omega)<|Ab rfl<|Aa ?_)
  refine⟨(i+1,_),by simp only;omega,⟨rfl,rfl,rfl,rfl,trivial⟩,rfl,e,rfl,?_⟩
  have:=hset _ D.opn[i].2 (by rw [Adw];exact hbl) ⟨rfl,hbl⟩
  rw [Acx e]
  rw [IK]
  exact this
 ·(refine Ad<|AE rfl rfl<|Aa<|Ah<|Ar rfl (by omega)<|Bj<|Ad<|Al rfl<|Au rfl<|Ai rfl ?_)
  refine AZ 0 [vs,.slice none 0 0,.int .i64 r,.int .i64 0] rfl rfl rfl rfl (Aca rfl) rfl rfl ?_
  have ei:i=D.opn.length:=by omega
  subst ei
  rw [Aeg] at hg
  have hD:Dv d' ⟨synced D.opn D.syn,[]⟩ (.pointer (some ⟨b,0,none⟩)) [bx b T [vs,.slice none 0 0,.int .i64 r,.int .i64 0],hs',emp]:=
   ⟨b,T,vs,_,r,hs',emp,rfl,rfl,hg,Aq.nil,fun w hw=>(by cases hw),by rw [Ev];exact h6⟩
  refine FF ⟨d',[bx b T [vs,.slice none 0 0,.int .i64 r,.int .i64 0],hs',emp],?_,?_⟩
  ·exact((Vs.drop (by exact Aeo _ (Aeo _ (List.Sublist.cons _ List.Sublist.slnil)))).trans Vs.emp).trans (Vs.perm (Ack (l₁:=[emp])))
  (refine Ad<|Al rfl ?_)
  refine Pr (B:=[]) rfl rfl (h2 hD) (fun u d' L' _ ⟨e1,e2⟩=>?_)
  subst e1;subst e2
  (refine Aa<|Ad<|Ab rfl<|Aa<|An ?_)
  exact BE rfl (Acb _) ⟨rfl,rfl,hD⟩
end Go.Gk.Dev
end
section
namespace Go.Gk.Cch
open Go Go.Gk Go.Gk.Dev
structure Fr where
 held:Bool
 sec:Nat
 pins:Nat
 late:Bool
 b:Sec
def fz:Fr:=⟨false,0,0,false,[]⟩
structure CD where
 fr:List Fr
 free:List Nat
 hand:Nat
 hits:Nat
 miss:Nat
def findF(k:Nat):List Fr→Option Nat
 |[]=>none
 |f::l=>if f.held=true∧f.sec=k then some 0 else(findF k l).map (·+1)
theorem Uo{k:Nat}{l:List Fr}{i:Nat} (hi:i<l.length):findF k (l.drop i)=if l[i].held=true∧l[i].sec=k then some 0 else(findF k (l.drop (i+1))).map (·+1):=by
 rw [Adi hi];rfl
theorem EZ{k:Nat}:∀{l:List Fr}{i:Nat},findF k l=some i→∃h:i<l.length,l[i].held=true∧l[i].sec=k
 |[],i,h=>by cases h
 |f::l,i,h=>by
  rw [findF] at h
  split at h
  ·rename_i e;cases h;exact⟨by simp,e⟩
  ·cases hf:findF k l with
   |none=>rw [hf] at h;cases h
   |some j=>
    rw [hf] at h;cases h
    obtain⟨h1,h2⟩:=EZ hf
    exact⟨by simpa using h1,by simpa using h2⟩
theorem Oc{k:Nat}:∀{l:List Fr},findF k l=none→∀f∈l,¬(f.held=true∧f.sec=k)
 |f::l,h,g,hg=>by
  rw [findF] at h
  split at h
  ·cases h
  ·rename_i e
   rcases Adb.1 hg with rfl|hg
   ·exact e
   ·refine Oc ?_ g hg
    cases hf:findF k l with
    |none=>rfl
    |some j=>rw [hf] at h;cases h
def Cg(l:List Fr):Bool:=l.all fun f=>f.pins !=0
def Bz(l:List Fr) (h:Nat):Bool:=(l.getD h fz).pins==0 && !(l.getD h fz).late
def Dm(l:List Fr) (h:Nat):List Fr:=if (l.getD h fz).pins=0 then l.set h {l.getD h fz with late:=false} else l
def Cu(l:List Fr) (h:Nat):Nat:=(h+1) % l.length
def Cn:Nat→List Fr→Nat→List Fr×Nat×Nat
 |0,l,h=>(l,Cu l h,h)
 |n+1,l,h=>if Bz l h then(l,Cu l h,h) else Cn n (Dm l h) (Cu l h)
theorem EV(l:List Fr) (h:Nat):(Dm l h).length=l.length:=by unfold Dm;split<;>simp
def QA(l:List Fr):Nat:=l.countP fun f=>f.pins==0 && f.late
def F6(l:List Fr):Nat→Nat→Nat
 |0,_=>0
 |n+1,h=>if (l.getD h fz).pins=0 then 0 else F6 l n (Cu l h)+1
def C8(l:List Fr) (h:Nat):Nat:=QA l*(l.length+1)+F6 l l.length h
theorem S6(l:List Fr):∀n h,F6 l n h≤n
 |0,_=>Ach _
 |n+1,h=>by rw [F6];split;omega;have:=S6 l n (Cu l h);omega
theorem NC{l:List Fr}{j:Nat} (hj:j<l.length) (hp:(l.getD j fz).pins=0):∀(n h:Nat),h<l.length→(h+n) % l.length=j→∀m,n<m→F6 l m h=F6 l (n+1) h
 |0,h,hh,e,m,hm=>by
  rw [Nat.add_zero,Afd hh] at e
  subst e
  cases m with
  |zero=>omega
  |succ m=>rw [F6,F6,if_pos hp,if_pos hp]
 |n+1,h,hh,e,m,hm=>by
  cases m with
  |zero=>omega
  |succ m=>
   rw [F6,F6]
   by_cases q:(l.getD h fz).pins=0
   ·rw [if_pos q,if_pos q]
   ·rw [if_neg q,if_neg q]
    have h1:Cu l h<l.length:=Afn _ (by omega)
    have h2:(Cu l h+n) % l.length=j:=by
     rw [Cu,Nat.mod_add_mod,←e];congr 1;omega
    rw [NC hj hp n (Cu l h) h1 h2 m (by omega)]
theorem WR{l:List Fr}{h:Nat} (hh:h<l.length) (hn:Cg l=false) (hp:(l.getD h fz).pins≠0):F6 l l.length (Cu l h)<F6 l l.length h:=by
 obtain⟨f,hf,hq⟩:=by simpa [Cg] using hn
 obtain⟨j,hj,rfl⟩:=Aei hf
 have hj0:(l.getD j fz).pins=0:=by rw [Acf,Ace hj];exact hq
 have hpos:0<l.length:=by omega
 have key:∃n,n<l.length∧(Cu l h+n) % l.length=j:=by
  have h1:Cu l h<l.length:=Afn _ hpos
  refine⟨(j+l.length - Cu l h) % l.length,Afn _ hpos,?_⟩
  rw [Nat.add_mod_mod,show Cu l h+(j+l.length - Cu l h)=j+l.length by omega,Nat.add_mod_right,Afd hj]
 obtain⟨n,hn1,hn2⟩:=key
 have h1:Cu l h<l.length:=Afn _ hpos
 have hn3:n≠l.length - 1:=by
  intro e
  subst e
  rw [Cu,Nat.mod_add_mod,show h+1+(l.length - 1)=h+l.length by omega,Nat.add_mod_right,Afd hh] at hn2
  subst hn2
  exact hp hj0
 obtain⟨m,hm⟩:∃m,l.length=m+1:=⟨l.length - 1,by omega⟩
 have e1:=NC hj hj0 n (Cu l h) h1 hn2 l.length hn1
 have e2:=NC hj hj0 n (Cu l h) h1 hn2 m (by omega)
 have e3:F6 l l.length h=F6 l m (Cu l h)+1:=by
  rw [hm,F6,if_neg hp]
 rw [e3,e1,e2];omega
theorem VS{l:List Fr}{h:Nat} (hh:h<l.length) (hp:(l.getD h fz).pins=0) (hl:(l.getD h fz).late=true):QA (l.set h {l.getD h fz with late:=false})+1=QA l:=by
 unfold QA
 have e:l.getD h fz=l[h]:=by rw [Acf,Ace hh];rfl
 rw [e] at hp hl⊢
 rw [List.countP_set hh]
 simp only [hp,hl]
 have:0<l.countP fun f=>f.pins==0 && f.late:=List.countP_pos_iff.2 ⟨l[h],Ada hh,by simp [hp,hl]⟩
 simp
 omega
theorem G3{l:List Fr}{h:Nat} (hh:h<l.length) (hn:Cg l=false) (ht:Bz l h=false):C8 (Dm l h) (Cu l h)<C8 l h:=by
 have hd:=S6 (Dm l h) (Dm l h).length (Cu l h)
 rw [EV] at hd
 unfold C8
 rw [EV]
 by_cases hp:(l.getD h fz).pins=0
 ·have hl:(l.getD h fz).late=true:=by
   unfold Bz at ht
   rw [hp] at ht
   simpa using ht
  have:=VS hh hp hl
  have e:Dm l h=l.set h {l.getD h fz with late:=false}:=by rw [Dm,if_pos hp]
  rw [e] at hd⊢
  rw [←this,Aer,Agn]
  omega
 ·have e:Dm l h=l:=by rw [Dm,if_neg hp]
  rw [e]
  have:=WR hh hn hp
  omega
theorem GU{l:List Fr}{h:Nat}:Cg (Dm l h)=Cg l:=by
 unfold Dm
 split
 ·rename_i hp
  by_cases hh:h<l.length
  ·have e:l.getD h fz=l[h]:=by rw [Acf,Ace hh];rfl
   rw [e] at hp⊢
   have h1:Cg l=false:=by
    unfold Cg;rw [List.all_eq_false];exact⟨l[h],Ada hh,by simp [hp]⟩
   have h2:Cg (l.set h {l[h] with late:=false})=false:=by
    unfold Cg;rw [List.all_eq_false]
    exact⟨_,List.mem_set hh _,by simp [hp]⟩
   rw [h1,h2]
  ·rw [Afh (by omega)]
 ·rfl
theorem Kb:∀(n:Nat) {l:List Fr}{h:Nat},h<l.length→Cg l=false→C8 l h<n→∀m,n≤m→Cn m l h=Cn n l h
 |0,l,h,_,_,hm,_,_=>by omega
 |n+1,l,h,hh,hn,hm,m,hle=>by
  cases m with
  |zero=>omega
  |succ m=>
   rw [Cn,Cn]
   cases ht:Bz l h with
   |true=>rfl
   |false=>
    simp only [Aci,if_false]
    exact Kb n (by rw [EV];exact Afn _ (by omega)) (by rw [GU];exact hn) (by have:=G3 hh hn ht;omega) m (by omega)
theorem NX{l:List Fr}{h:Nat} (hh:h<l.length) (hn:Cg l=false) (ht:Bz l h=false):Cn (C8 (Dm l h) (Cu l h)+1) (Dm l h) (Cu l h)=Cn (C8 l h+1) l h:=by
 rw [show Cn (C8 l h+1) l h=Cn (C8 l h) (Dm l h) (Cu l h) by rw [Cn,ht];rfl]
 have h1:=G3 hh hn ht
 exact(Kb _ (by rw [EV];exact Afn _ (by omega)) (by rw [GU];exact hn) (Nat.lt_succ_self _) _ (by omega)).symm
def EJ(c:CD):CD×Option Nat:=
 match c.free with
 |i::r=>({c with free:=r},some i)
 |[]=>if Cg c.fr then(c,none) else let s:=Cn (C8 c.fr c.hand+1) c.fr c.hand;({c with fr:=s.1,hand:=s.2.1},some s.2.2)
def Eh(b:Sec) (c:CD) (k:Nat):CD×Option Sec:=
 match findF k c.fr with
 |some i=>({c with fr:=c.fr.set i {c.fr.getD i fz with pins:=(c.fr.getD i fz).pins+1,late:=true},hits:=c.hits+1},some (c.fr.getD i fz).b)
 |none=>match EJ c with
  |(c',none)=>(c',none)
  |(c',some i)=>({c' with fr:=c'.fr.set i ⟨true,k,1,true,b⟩,miss:=c'.miss+1},some b)
def CZ(c:CD) (k:Nat):CD×Int:=
 match findF k c.fr with
 |none=>(c,240)
 |some i=>if (c.fr.getD i fz).pins=0 then(c,180) else({c with fr:=c.fr.set i {c.fr.getD i fz with pins:=(c.fr.getD i fz).pins - 1}},0)
def CW(c:CD) (k:Nat):CD×Int:=
 match findF k c.fr with
 |none=>(c,240)
 |some i=>if (c.fr.getD i fz).pins>0 then(c,180) else({c with fr:=c.fr.set i fz,free:=c.free++[i]},0)
def DW(c:CD):List Int:=c.fr.map fun f=>if f.held then(f.sec:Int) else -1
end Go.Gk.Cch
namespace Go.Gk.Cch
open Go Go.Gk Go.Gk.Dev
def KN(c:CD) (n:Nat):Prop:=∀f∈c.fr,f.pins≤n
theorem Np:∀(n:Nat) {l:List Fr}{h:Nat},h<l.length→(Cn n l h).1.length=l.length∧(Cn n l h).2.2<l.length∧(Cn n l h).2.1<l.length
 |0,l,h,hh=>⟨rfl,hh,Afn _ (by omega)⟩
 |n+1,l,h,hh=>by
  rw [Cn]
  split
  ·exact⟨rfl,hh,Afn _ (by omega)⟩
  ·have:=Np n (l:=Dm l h) (h:=Cu l h) (by rw [EV];exact Afn _ (by omega))
   rw [EV] at this
   exact this
theorem TO{c c1:CD}{i:Nat} (hh:c.hand<c.fr.length) (hf:∀i∈c.free,i<c.fr.length) (h:EJ c=(c1,some i)):i<c1.fr.length:=by
 unfold EJ at h
 split at h
 ·rename_i j r e
  cases h
  exact hf _ (by rw [e];exact Acu ..)
 ·split at h
  ·cases h
  ·cases h
   have:=Np (C8 c.fr c.hand+1) hh
   simp only
   omega
end Go.Gk.Cch
end
section
namespace Go.Gk.Cch
open Go Go.Gk Go.Gk.Dev
theorem Hc:∀{l m:List Nat},l.Nodup→(∀x∈l,x∈m)→l.length≤m.length
 |[],_,_,_=>Adg _
 |x::l,m,h,hs=>by
  have hx:=hs x (Acu ..)
  have:=Hc (l:=l) (m:=m.erase x) (Afr.1 h).2 (fun y hy=>by
   have hne:y≠x:=fun e=>(Afr.1 h).1 (e▸hy)
   exact(List.mem_erase_of_ne hne).2 (hs y (Acy _ hy)))
  rw [List.length_erase_of_mem hx] at this
  have:=List.length_pos_of_mem hx
  simp only [Acs];omega
abbrev CD.at(c:CD) (i:Nat):Fr:=c.fr.getD i fz
structure Inv (cur:Nat→Sec) (N:Nat) (c:CD):Prop where
 n1:1≤c.fr.length
 n2:c.fr.length≤64
 hd:c.hand<c.fr.length
 fl:∀i∈c.free,i<c.fr.length
 nd:c.free.Nodup
 fh:∀i,i<c.fr.length→((c.at i).held=false↔i∈c.free)
 ds:∀i j,i<c.fr.length→j<c.fr.length→(c.at i).held=true→(c.at j).held=true→(c.at i).sec=(c.at j).sec→i=j
 vl:∀i,i<c.fr.length→(c.at i).held=true→(c.at i).sec<N∧(c.at i).b=cur (c.at i).sec
 pz:∀i,i<c.fr.length→(c.at i).held=false→(c.at i).pins=0∧(c.at i).sec=0
def Cv(c:CD) (k:Nat):Nat:=match findF k c.fr with|some i=>(c.at i).pins|none=>0
theorem at_set{l:List Fr}{i j:Nat}{f:Fr} (hi:i<l.length):(l.set i f).getD j fz=if j=i then f else l.getD j fz:=by
 simp only [Acf,List.getElem?_set]
 by_cases e:i=j
 ·subst e;simp [hi]
 ·rw [if_neg e,if_neg (fun h=>e h.symm)]
theorem CO{l:List Fr}{i:Nat} (hi:i<l.length):l.getD i fz=l[i]:=by rw [Acf,Ace hi];rfl
theorem C0{c:CD}{k i:Nat} (h:findF k c.fr=some i):i<c.fr.length∧(c.at i).held=true∧(c.at i).sec=k:=by
 obtain⟨h1,h2,h3⟩:=EZ h
 exact⟨h1,by rw [CD.at,CO h1];exact h2,by rw [CD.at,CO h1];exact h3⟩
theorem Gd{c:CD}{k:Nat} (h:findF k c.fr=none) {i:Nat} (hi:i<c.fr.length) (hh:(c.at i).held=true):(c.at i).sec≠k:=by
 intro e
 rw [CD.at,CO hi] at hh e
 exact Oc h _ (Ada hi) ⟨hh,e⟩
theorem Inv.find{cur:Nat→Sec}{N:Nat}{c:CD} (h:Inv cur N c) {k i:Nat} (hi:i<c.fr.length) (hh:(c.at i).held=true) (hs:(c.at i).sec=k):findF k c.fr=some i:=by
 cases hf:findF k c.fr with
 |none=>exact absurd hs (Gd hf hi hh)
 |some j=>
  obtain⟨h1,h2,h3⟩:=C0 hf
  rw [h.ds j i h1 hi h2 hh (h3.trans hs.symm)]
theorem R9{cur:Nat→Sec}{N:Nat}{c:CD} (h:Inv cur N c) {i:Nat} (hi:i<c.fr.length) (hh:(c.at i).held=true):Cv c (c.at i).sec=(c.at i).pins:=by
 rw [Cv,h.find hi hh rfl]
def El(l m:List Fr):Prop:=l.length=m.length∧∀i,(l.getD i fz).held=(m.getD i fz).held∧(l.getD i fz).sec=(m.getD i fz).sec∧(l.getD i fz).pins=(m.getD i fz).pins∧(l.getD i fz).b=(m.getD i fz).b
theorem El.refl(l:List Fr):El l l:=⟨rfl,fun _=>⟨rfl,rfl,rfl,rfl⟩⟩
theorem El.trans{a b c:List Fr} (h:El a b) (k:El b c):El a c:=
 ⟨h.1.trans k.1,fun i=>let ⟨x,y,z,w⟩:=h.2 i;let ⟨x',y',z',w'⟩:=k.2 i;⟨x.trans x',y.trans y',z.trans z',w.trans w'⟩⟩
theorem PO(l:List Fr) (h:Nat):El (Dm l h) l:=by
 unfold Dm
 split
 ·by_cases hh:h<l.length
  ·refine⟨by simp,fun i=>?_⟩
   rw [at_set hh]
   by_cases e:i=h
   ·subst e;rw [if_pos rfl];exact⟨rfl,rfl,rfl,rfl⟩
   ·rw [if_neg e];exact⟨rfl,rfl,rfl,rfl⟩
  ·rw [Afh (by omega)];exact El.refl l
 ·exact El.refl l
theorem JX:∀(n:Nat) (l:List Fr) (h:Nat),El (Cn n l h).1 l
 |0,l,_=>El.refl l
 |n+1,l,h=>by
  rw [Cn]
  split
  ·exact El.refl l
  ·exact(JX n _ _).trans (PO l h)
theorem Of:∀(n:Nat) {l:List Fr}{h:Nat},h<l.length→Cg l=false→C8 l h<n→(l.getD (Cn n l h).2.2 fz).pins=0
 |0,_,_,_,_,hm=>by omega
 |n+1,l,h,hh,hn,hm=>by
  rw [Cn]
  cases ht:Bz l h with
  |true=>
   simp only [if_true]
   unfold Bz at ht
   simp only [Acd,beq_iff_eq] at ht
   exact ht.1
  |false=>
   simp only [Aci,if_false]
   have:=Of n (l:=Dm l h) (h:=Cu l h) (by rw [EV];exact Afn _ (by omega)) (by rw [GU];exact hn) (by have:=G3 hh hn ht;omega)
   rw [((PO l h).2 _).2.2.1] at this
   exact this
theorem Inv.same{cur:Nat→Sec}{N:Nat}{c c':CD} (h:Inv cur N c) (hl:c'.fr.length=c.fr.length) (hf:c'.free=c.free) (hh:c'.hand<c.fr.length)
  (he:∀i,(c'.at i).held=(c.at i).held∧(c'.at i).sec=(c.at i).sec∧(c'.at i).b=(c.at i).b∧((c.at i).held=false→(c'.at i).pins=(c.at i).pins)):Inv cur N c' where
 n1:=by rw [hl];exact h.n1
 n2:=by rw [hl];exact h.n2
 hd:=by rw [hl];exact hh
 fl:=by rw [hl,hf];exact h.fl
 nd:=by rw [hf];exact h.nd
 fh:=fun i hi=>by rw [(he i).1,hf];exact h.fh i (hl▸hi)
 ds:=fun i j hi hj h1 h2 h3=>by rw [(he i).1] at h1;rw [(he j).1] at h2;rw [(he i).2.1,(he j).2.1] at h3;exact h.ds i j (hl▸hi) (hl▸hj) h1 h2 h3
 vl:=fun i hi h1=>by rw [(he i).1] at h1;rw [(he i).2.1,(he i).2.2.1];exact h.vl i (hl▸hi) h1
 pz:=fun i hi h1=>by rw [(he i).1] at h1;rw [(he i).2.2.2 h1,(he i).2.1];exact h.pz i (hl▸hi) h1
theorem Inv.take{cur:Nat→Sec}{N:Nat}{c c1:CD} (h:Inv cur N c) (hl:El c1.fr c.fr) (hh:c1.hand<c.fr.length) {i k:Nat} (hi:i<c.fr.length) (hk:k<N) (hn:findF k c.fr=none)
  (hf:(c.free=i::c1.free)∨(c.free=[]∧c1.free=[]∧(c.at i).pins=0)) {m:Nat} (c2:CD) (e:c2={c1 with fr:=c1.fr.set i ⟨true,k,1,true,cur k⟩,miss:=m}):
  Inv cur N c2∧(∀s,Cv c2 s=if s=k then Cv c s+1 else Cv c s)∧findF k c2.fr=some i:=by
 have hi1:i<c1.fr.length:=by rw [hl.1];exact hi
 have hlen:c2.fr.length=c.fr.length:=by subst e;simp [hl.1]
 have hat:∀j,c2.at j=if j=i then⟨true,k,1,true,cur k⟩ else c1.fr.getD j fz:=fun j=>by subst e;exact at_set hi1
 have hsame:∀j,j≠i→(c2.at j).held=(c.at j).held∧(c2.at j).sec=(c.at j).sec∧(c2.at j).pins=(c.at j).pins∧(c2.at j).b=(c.at j).b:=fun j hj=>by
  rw [hat,if_neg hj];exact hl.2 j
 have hself:c2.at i=⟨true,k,1,true,cur k⟩:=by rw [hat,if_pos rfl]
 have hfree:c2.free=c1.free:=by subst e;rfl
 have hsub:∀j,j≠i→(j∈c1.free↔j∈c.free):=fun j hj=>by
  rcases hf with hf|⟨hf1,hf2,_⟩
  ·rw [hf];simp [hj]
  ·rw [hf1,hf2]
 have hni:i∉c1.free:=by
  rcases hf with hf|⟨_,hf2,_⟩
  ·have:=h.nd;rw [hf] at this;exact(Afr.1 this).1
  ·rw [hf2];exact List.not_mem_nil
 have hpi:(c.at i).pins=0:=by
  rcases hf with hf|⟨_,_,hp⟩
  ·exact(h.pz i hi ((h.fh i hi).2 (by rw [hf];exact Acu ..))).1
  ·exact hp
 have I:Inv cur N c2:=
 {n1:=by rw [hlen];exact h.n1
  n2:=by rw [hlen];exact h.n2
  hd:=by rw [hlen];subst e;exact hh
  fl:=fun j hj=>by
   rw [hfree] at hj;rw [hlen]
   by_cases q:j=i
   ·subst q;exact absurd hj hni
   ·exact h.fl j ((hsub j q).1 hj)
  nd:=by
   rw [hfree]
   rcases hf with hf|⟨_,hf2,_⟩
   ·have:=h.nd;rw [hf] at this;exact(Afr.1 this).2
   ·rw [hf2];exact Agq
  fh:=fun j hj=>by
   rw [hlen] at hj;rw [hfree]
   by_cases q:j=i
   ·subst q;rw [hself];exact⟨(fun z=>by cases z),fun z=>absurd z hni⟩
   ·rw [(hsame j q).1,hsub j q];exact h.fh j hj
  ds:=fun a b ha hb h1 h2 h3=>by
   rw [hlen] at ha hb
   by_cases qa:a=i
   ·by_cases qb:b=i
    ·omega
    ·subst qa
     rw [hself,(hsame b qb).2.1] at h3;rw [(hsame b qb).1] at h2
     exact absurd h3.symm (Gd hn hb h2)
   ·by_cases qb:b=i
    ·subst qb
     rw [hself,(hsame a qa).2.1] at h3;rw [(hsame a qa).1] at h1
     exact absurd h3 (Gd hn ha h1)
    ·rw [(hsame a qa).1] at h1;rw [(hsame b qb).1] at h2;rw [(hsame a qa).2.1,(hsame b qb).2.1] at h3
     exact h.ds a b ha hb h1 h2 h3
  vl:=fun a ha h1=>by
   rw [hlen] at ha
   by_cases qa:a=i
   ·subst qa;rw [hself];exact⟨hk,rfl⟩
   ·rw [(hsame a qa).1] at h1;rw [(hsame a qa).2.1,(hsame a qa).2.2.2];exact h.vl a ha h1
  pz:=fun a ha h1=>by
   rw [hlen] at ha
   by_cases qa:a=i
   ·subst qa;rw [hself] at h1;cases h1
   ·rw [(hsame a qa).1] at h1;rw [(hsame a qa).2.2.1,(hsame a qa).2.1];exact h.pz a ha h1}
 have hfk:findF k c2.fr=some i:=I.find (by rw [hlen];exact hi) (by rw [hself]) (by rw [hself])
 refine⟨I,fun s=>?_,hfk⟩
 by_cases q:s=k
 ·subst q
  rw [if_pos rfl,Cv,hfk,Cv,hn]
  show(c2.at i).pins=_
  rw [hself]
 ·rw [if_neg q]
  cases hs:findF s c.fr with
  |some j=>
   obtain⟨h1,h2,h3⟩:=C0 hs
   by_cases qj:j=i
   ·subst qj
    have e1:Cv c s=0:=by rw [Cv,hs];exact hpi
    rw [e1,Cv]
    cases ht:findF s c2.fr with
    |none=>rfl
    |some a=>
     obtain⟨g1,g2,g3⟩:=C0 ht
     by_cases qa:a=j
     ·subst qa;rw [hself] at g3;exact absurd g3.symm q
     ·rw [hlen] at g1
      rw [(hsame a qa).1] at g2;rw [(hsame a qa).2.1] at g3
      exact absurd (h.ds a j g1 h1 g2 h2 (g3.trans h3.symm)) qa
   ·have:findF s c2.fr=some j:=I.find (by rw [hlen];exact h1) (by rw [(hsame j qj).1];exact h2) (by rw [(hsame j qj).2.1];exact h3)
    rw [Cv,this,Cv,hs]
    exact(hsame j qj).2.2.1
  |none=>
   have e1:Cv c s=0:=by rw [Cv,hs]
   rw [e1,Cv]
   cases ht:findF s c2.fr with
   |none=>rfl
   |some a=>
    obtain⟨g1,g2,g3⟩:=C0 ht
    rw [hlen] at g1
    by_cases qa:a=i
    ·subst qa;rw [hself] at g3;exact absurd g3.symm q
    ·rw [(hsame a qa).1] at g2;rw [(hsame a qa).2.1] at g3
     exact absurd g3 (Gd hs g1 g2)
theorem get_some{cur:Nat→Sec}{N:Nat}{c c':CD}{k:Nat}{b:Sec} (h:Inv cur N c) (hk:k<N) (hg:Eh (cur k) c k=(c',some b)):
  Inv cur N c'∧b=cur k∧(∀s,Cv c' s=if s=k then Cv c s+1 else Cv c s)∧(∃i,findF k c'.fr=some i)∧c'.fr.length=c.fr.length∧
   (match findF k c.fr with|some _=>c'.hits=c.hits+1∧c'.miss=c.miss|none=>c'.hits=c.hits∧c'.miss=c.miss+1)∧
   (c.free≠[]∨findF k c.fr≠none→∀s,s≠k→(findF s c'.fr=none↔findF s c.fr=none)):=by
 unfold Eh at hg
 cases hf:findF k c.fr with
 |some i=>
  rw [hf] at hg
  cases hg
  obtain⟨h1,h2,h3⟩:=C0 hf
  have hat:∀j,((c.fr.set i {c.fr.getD i fz with pins:=(c.fr.getD i fz).pins+1,late:=true}).getD j fz)=if j=i then{c.fr.getD i fz with pins:=(c.fr.getD i fz).pins+1,late:=true} else c.fr.getD j fz:=fun j=>at_set h1
  have hsame:El (c.fr.set i {c.fr.getD i fz with pins:=(c.fr.getD i fz).pins,late:=true}) c.fr:=⟨by simp,fun j=>by
   rw [at_set h1]
   by_cases q:j=i
   ·subst q;rw [if_pos rfl];exact⟨rfl,rfl,rfl,rfl⟩
   ·rw [if_neg q];exact⟨rfl,rfl,rfl,rfl⟩⟩
  have hfind:∀s,findF s (c.fr.set i {c.fr.getD i fz with pins:=(c.fr.getD i fz).pins+1,late:=true})=findF s c.fr:=by
   intro s
   have gen:∀(l:List Fr) (i:Nat) (f:Fr),f.held=(l.getD i fz).held→f.sec=(l.getD i fz).sec→findF s (l.set i f)=findF s l:=by
    intro l
    induction l with
    |nil=>intro i f _ _;rfl
    |cons g l ih=>
     intro i f e1 e2
     cases i with
     |zero=>simp only [Aey] at e1 e2;rw [List.set_cons_zero,findF,findF,e1,e2]
     |succ i=>simp only [Aeu] at e1 e2;rw [Agb,findF,findF,ih i f e1 e2]
   exact gen c.fr i _ rfl rfl
  refine⟨h.same (by simp) rfl h.hd (fun j=>?_),?_,fun s=>?_,⟨i,by rw [hfind];exact hf⟩,by simp,⟨rfl,rfl⟩,fun _ s _=>by rw [hfind]⟩
  ·simp only [CD.at,hat]
   by_cases q:j=i
   ·subst q;rw [if_pos rfl];exact⟨rfl,rfl,rfl,fun z=>by rw [CD.at] at h2;rw [h2] at z;cases z⟩
   ·rw [if_neg q];exact⟨rfl,rfl,rfl,fun _=>rfl⟩
  ·rw [(h.vl i h1 h2).2,h3]
  ·simp only [Cv,hfind,CD.at]
   by_cases q:s=k
   ·subst q
    rw [if_pos rfl,hf]
    simp only [hat,if_true]
   ·rw [if_neg q]
    cases hs:findF s c.fr with
    |none=>rfl
    |some j=>
     have hj:j≠i:=by
      rintro rfl
      obtain⟨_,_,g3⟩:=C0 hs
      exact q (g3.symm.trans h3)
     simp only [hat,if_neg hj]
 |none=>
  rw [hf] at hg
  simp only at hg
  unfold EJ at hg
  cases hfr:c.free with
  |cons i r=>
   rw [hfr] at hg
   simp only at hg
   cases hg
   have hi:=h.fl i (by rw [hfr];exact Acu ..)
   obtain⟨g1,g2,g3⟩:=h.take (c1:={c with free:=r}) (El.refl _) h.hd hi hk hf (.inl hfr) _ rfl
   refine⟨g1,rfl,g2,⟨i,g3⟩,by simp,⟨rfl,rfl⟩,fun _ s hs=>?_⟩
   have hnh:(c.at i).held=false:=(h.fh i hi).2 (by rw [hfr];exact Acu ..)
   constructor
   ·intro z
    cases q:findF s c.fr with
    |none=>rfl
    |some j=>
     obtain⟨y1,y2,y3⟩:=C0 q
     have hj:j≠i:=by rintro rfl;rw [hnh] at y2;cases y2
     have e:(c.fr.set i ⟨true,k,1,true,cur k⟩).getD j fz=c.fr.getD j fz:=by rw [at_set hi,if_neg hj]
     have:=g1.find (k:=s) (i:=j) (by simpa using y1) (by simp only [CD.at];rw [e];exact y2) (by simp only [CD.at];rw [e];exact y3)
     rw [this] at z;cases z
   ·intro z
    cases q:findF s (c.fr.set i ⟨true,k,1,true,cur k⟩) with
    |none=>rfl
    |some j=>
     obtain⟨y1,y2,y3⟩:=C0 (c:={c with free:=r,fr:=c.fr.set i ⟨true,k,1,true,cur k⟩}) q
     simp only [CD.at] at y2 y3
     rw [at_set hi] at y2 y3
     by_cases hj:j=i
     ·rw [if_pos hj] at y3;exact absurd y3.symm hs
     ·rw [if_neg hj] at y2 y3
      exact absurd y3 (Gd z (by simpa using y1) y2)
  |nil=>
   rw [hfr] at hg
   simp only at hg
   cases hp:Cg c.fr with
   |true=>rw [hp] at hg;simp only [if_true] at hg;cases hg
   |false=>
    rw [hp] at hg
    simp only [Aci,if_false] at hg
    cases hg
    have hs:=JX (C8 c.fr c.hand+1) c.fr c.hand
    have hl:=Np (C8 c.fr c.hand+1) h.hd
    have hpz:=Of _ h.hd hp (Nat.lt_succ_self _)
    obtain⟨g1,g2,g3⟩:=h.take (c1:=⟨(Cn (C8 c.fr c.hand+1) c.fr c.hand).1,[],(Cn (C8 c.fr c.hand+1) c.fr c.hand).2.1,c.hits,c.miss⟩) hs hl.2.2 hl.2.1 hk hf (.inr ⟨hfr,rfl,hpz⟩) _ rfl
    exact⟨g1,rfl,g2,⟨_,g3⟩,by simp [hl.1],⟨rfl,rfl⟩,fun z=>by rcases z with z|z<;>exact absurd rfl z⟩
theorem get_none{cur:Nat→Sec}{N:Nat}{c c':CD}{k:Nat} (_:Inv cur N c) (hg:Eh (cur k) c k=(c',none)):c'=c∧findF k c.fr=none∧c.free=[]∧Cg c.fr=true:=by
 unfold Eh at hg
 cases hf:findF k c.fr with
 |some i=>rw [hf] at hg;cases hg
 |none=>
  rw [hf] at hg
  simp only at hg
  unfold EJ at hg
  cases hfr:c.free with
  |cons i r=>rw [hfr] at hg;cases hg
  |nil=>
   rw [hfr] at hg
   simp only at hg
   cases hp:Cg c.fr with
   |true=>rw [hp] at hg;simp only [if_true] at hg;cases hg;exact⟨rfl,rfl,rfl,rfl⟩
   |false=>rw [hp] at hg;simp only [Aci,if_false] at hg;cases hg
theorem Inv.full{cur:Nat→Sec}{N:Nat}{c:CD} (h:Inv cur N c) (hf:c.free=[]) {S:List Nat} (hS:∀i,i<c.fr.length→(c.at i).sec∈S):c.fr.length≤S.length:=by
 have hheld:∀i,i<c.fr.length→(c.at i).held=true:=fun i hi=>by
  cases q:(c.at i).held with
  |true=>rfl
  |false=>have:=(h.fh i hi).1 q;rw [hf] at this;cases this
 have hn:((Ade c.fr.length).map fun i=>(c.at i).sec).Nodup:=by
  refine List.pairwise_map.2 (List.Pairwise.imp_of_mem (fun{a b} ha hb hne e=>hne ?_) List.nodup_range)
  exact h.ds a b (Afq.1 ha) (Afq.1 hb) (hheld a (Afq.1 ha)) (hheld b (Afq.1 hb)) e
 have:=Hc hn (m:=S) (fun x hx=>by
  obtain⟨i,hi,rfl⟩:=Agl.1 hx
  exact hS i (Afq.1 hi))
 simpa using this
theorem WM{cur:Nat→Sec}{N:Nat}{c:CD}{k:Nat} (h:Inv cur N c) (hp:Cv c k≠0):
  Inv cur N (CZ c k).1∧(CZ c k).2=0∧(∀s,Cv (CZ c k).1 s=if s=k then Cv c s - 1 else Cv c s)∧(CZ c k).1.fr.length=c.fr.length∧(CZ c k).1.hits=c.hits∧(CZ c k).1.miss=c.miss∧(CZ c k).1.free=c.free∧
   ∀s,findF s (CZ c k).1.fr=findF s c.fr:=by
 unfold CZ
 cases hf:findF k c.fr with
 |none=>rw [Cv,hf] at hp;exact absurd rfl hp
 |some i=>
  have hpi:(c.fr.getD i fz).pins≠0:=by rw [Cv,hf] at hp;exact hp
  simp only [if_neg hpi]
  obtain⟨h1,h2,h3⟩:=C0 hf
  have hfind:∀s,findF s (c.fr.set i {c.fr.getD i fz with pins:=(c.fr.getD i fz).pins - 1})=findF s c.fr:=by
   intro s
   have gen:∀(l:List Fr) (i:Nat) (f:Fr),f.held=(l.getD i fz).held→f.sec=(l.getD i fz).sec→findF s (l.set i f)=findF s l:=by
    intro l
    induction l with
    |nil=>intro i f _ _;rfl
    |cons g l ih=>
     intro i f e1 e2
     cases i with
     |zero=>simp only [Aey] at e1 e2;rw [List.set_cons_zero,findF,findF,e1,e2]
     |succ i=>simp only [Aeu] at e1 e2;rw [Agb,findF,findF,ih i f e1 e2]
   exact gen c.fr i _ rfl rfl
  refine⟨h.same (by simp) rfl h.hd (fun j=>?_),trivial,fun s=>?_,by simp,trivial,trivial,trivial,hfind⟩
  ·simp only [CD.at,at_set h1]
   by_cases q:j=i
   ·subst q;rw [if_pos rfl];exact⟨rfl,rfl,rfl,fun z=>by rw [CD.at] at h2;rw [h2] at z;cases z⟩
   ·rw [if_neg q];exact⟨rfl,rfl,rfl,fun _=>rfl⟩
  ·simp only [Cv,hfind,CD.at]
   by_cases q:s=k
   ·subst q
    rw [if_pos rfl,hf]
    simp only [at_set h1,if_true]
   ·rw [if_neg q]
    cases hs:findF s c.fr with
    |none=>rfl
    |some j=>
     have hj:j≠i:=by
      rintro rfl
      obtain⟨_,_,g3⟩:=C0 hs
      exact q (g3.symm.trans h3)
     simp only [at_set h1,if_neg hj]
theorem Zp(cur:Nat→Sec) (N n:Nat) (h1:1≤n) (h2:n≤64):Inv cur N ⟨Acr n fz,Ade n,0,0,0⟩:=by
 have hat:∀i,(Acr n fz).getD i fz=fz:=fun i=>by
  rw [Acf,List.getElem?_replicate];split<;>rfl
 exact
 {n1:=by simpa using h1
  n2:=by simpa using h2
  hd:=by simp only [Adn];omega
  fl:=fun i hi=>by simpa using hi
  nd:=List.nodup_range
  fh:=fun i hi=>by simp only [CD.at,hat];simp at hi;simpa [fz] using hi
  ds:=fun i j _ _ hh _ _=>by simp only [CD.at,hat] at hh;cases hh
  vl:=fun i _ hh=>by simp only [CD.at,hat] at hh;cases hh
  pz:=fun i _ _=>by simp only [CD.at,hat];exact⟨rfl,rfl⟩}
theorem M8(n k:Nat):findF k (Acr n fz)=none:=by
 induction n with
 |zero=>rfl
 |succ n ih=>rw [List.replicate_succ,findF,ih];simp [fz]
theorem Inv.held{cur:Nat→Sec}{N:Nat}{c:CD} (h:Inv cur N c):∀i (hi:i<(DW c).length),(DW c)[i]<N∧(∀j (hj:j<i),0≤(DW c)[i]→(DW c)[j]≠(DW c)[i]):=by
 have hlen:(DW c).length=c.fr.length:=by simp [DW]
 have hget:∀i (hi:i<(DW c).length),(DW c)[i]=if (c.at i).held then((c.at i).sec:Int) else -1:=fun i hi=>by
  have e:c.at i=c.fr[i]'(hlen▸hi):=CO _
  rw [e];simp [DW]
 intro i hi
 rw [hget i hi]
 cases q:(c.at i).held with
 |false=>exact⟨by simp only [Aci,if_false];omega,fun j _ z=>by simp at z⟩
 |true=>
  refine⟨by simp only [if_true];have:=(h.vl i (hlen▸hi) q).1;omega,fun j hj _ e=>?_⟩
  rw [hget j (by omega)] at e
  cases q':(c.at j).held with
  |false=>rw [q'] at e;simp at e
  |true=>
   rw [q'] at e
   simp only [if_true] at e
   have:=h.ds j i (by omega) (hlen▸hi) q' q (by omega)
   omega
theorem ZO{cur:Nat→Sec}{N:Nat}{c:CD} (h:Inv cur N c) {m:Nat} (hp:∀s,Cv c s≤m):∀f∈c.fr,f.pins≤m:=by
 intro f hf
 obtain⟨i,hi,rfl⟩:=Aei hf
 have e:c.at i=c.fr[i]:=CO hi
 cases q:(c.at i).held with
 |true=>have:=R9 h hi q;have:=hp (c.at i).sec;rw [←e];omega
 |false=>have:=(h.pz i hi q).1;rw [e] at this;omega
theorem PM{cur:Nat→Sec}{N:Nat}{c:CD} (h:Inv cur N c) {k i:Nat} (hf:findF k c.fr=some i) (s:Nat):findF s (c.fr.set i fz)=if s=k then none else findF s c.fr:=by
 obtain⟨h1,h2,h3⟩:=C0 hf
 have gen:∀(l:List Fr) (i:Nat),i<l.length→(∀j,j<l.length→j≠i→¬((l.getD j fz).held=true∧(l.getD j fz).sec=k))→(l.getD i fz).sec=k→findF s (l.set i fz)=if s=k then none else findF s l:=by
  intro l
  induction l with
  |nil=>intro i hi;simp at hi
  |cons g l ih=>
   intro i hi hj hk
   cases i with
   |zero=>
    simp only [Aey] at hk
    rw [List.set_cons_zero,findF,if_neg (by simp [fz]),findF]
    by_cases q:s=k
    ·subst q
     rw [if_pos rfl]
     cases hs:findF s l with
     |none=>rfl
     |some j=>
      obtain⟨g1,g2,g3⟩:=EZ hs
      refine absurd ?_ (hj (j+1) (by simpa using g1) (by omega))
      rw [Aeu,CO g1]
      exact⟨g2,g3⟩
    ·rw [if_neg q,if_neg (fun z=>q (z.2.symm.trans hk))]
   |succ i=>
    simp only [Aeu] at hk
    have h0:=hj 0 (by simp) (by omega)
    simp only [Aey] at h0
    rw [Agb,findF,findF,ih i (by simpa using hi) (fun j g1 g2=>by have:=hj (j+1) (by simpa using g1) (by omega);simpa only [Aeu] using this) hk]
    by_cases q:s=k
    ·subst q;rw [if_pos rfl,if_neg h0,if_pos rfl];rfl
    ·rw [if_neg q,if_neg q]
 refine gen c.fr i h1 (fun j hj hne z=>hne ?_) h3
 exact h.ds j i hj h1 z.1 h2 (z.2.trans h3.symm)
theorem SC{cur:Nat→Sec}{N:Nat}{c:CD}{k i:Nat} (h:Inv cur N c) (hf:findF k c.fr=some i) (hp:Cv c k=0):
  CW c k=({c with fr:=c.fr.set i fz,free:=c.free++[i]},0)∧Inv cur N (CW c k).1∧(∀s,findF s (CW c k).1.fr=if s=k then none else findF s c.fr)∧(∀s,Cv (CW c k).1 s=Cv c s):=by
 obtain⟨h1,h2,h3⟩:=C0 hf
 have hpi:(c.fr.getD i fz).pins=0:=by rw [Cv,hf] at hp;exact hp
 have e:CW c k=({c with fr:=c.fr.set i fz,free:=c.free++[i]},0):=by unfold CW;rw [hf];simp only;rw [if_neg (by omega)]
 have hni:i∉c.free:=fun z=>by rw [(h.fh i h1).2 z] at h2;cases h2
 rw [e]
 have hat:∀j,(c.fr.set i fz).getD j fz=if j=i then fz else c.fr.getD j fz:=fun j=>at_set h1
 have I:Inv cur N {c with fr:=c.fr.set i fz,free:=c.free++[i]}:=
 {n1:=by simpa using h.n1
  n2:=by simpa using h.n2
  hd:=by simpa using h.hd
  fl:=fun j hj=>by
   simp only [Adf]
   rcases Acj.1 hj with hj|hj
   ·exact h.fl j hj
   ·rw [Acv.1 hj];exact h1
  nd:=by
   rw [Afi]
   exact⟨h.nd,by simp,fun a ha b hb z=>by rw [Acv.1 hb] at z;exact hni (z▸ha)⟩
  fh:=fun j hj=>by
   simp only [Adf] at hj
   simp only [CD.at,hat,Acj,Acv]
   by_cases q:j=i
   ·subst q;simp [fz]
   ·rw [if_neg q]
    have:=h.fh j hj
    simp only [CD.at] at this
    rw [this];simp [q]
  ds:=fun a b ha hb g1 g2 g3=>by
   simp only [Adf] at ha hb
   simp only [CD.at,hat] at g1 g2 g3
   by_cases qa:a=i
   ·rw [if_pos qa] at g1;cases g1
   ·by_cases qb:b=i
    ·rw [if_pos qb] at g2;cases g2
    ·rw [if_neg qa] at g1 g3;rw [if_neg qb] at g2 g3
     exact h.ds a b ha hb g1 g2 g3
  vl:=fun a ha g1=>by
   simp only [Adf] at ha
   simp only [CD.at,hat] at g1⊢
   by_cases qa:a=i
   ·rw [if_pos qa] at g1;cases g1
   ·rw [if_neg qa] at g1⊢;exact h.vl a ha g1
  pz:=fun a ha g1=>by
   simp only [Adf] at ha
   simp only [CD.at,hat] at g1⊢
   by_cases qa:a=i
   ·rw [if_pos qa];exact⟨rfl,rfl⟩
   ·rw [if_neg qa] at g1⊢;exact h.pz a ha g1}
 refine⟨rfl,I,fun s=>PM h hf s,fun s=>?_⟩
 simp only [Cv]
 rw [PM h hf s]
 by_cases q:s=k
 ·subst q;rw [if_pos rfl,hf];exact hpi.symm
 ·rw [if_neg q]
  cases hs:findF s c.fr with
  |none=>rfl
  |some j=>
   obtain⟨g1,g2,g3⟩:=C0 hs
   have hj:j≠i:=by rintro rfl;exact q (g3.symm.trans h3)
   simp only [CD.at,hat,if_neg hj]
theorem Zc{cur:Nat→Sec}{N:Nat}{c:CD}{k i:Nat} (h:Inv cur N c) (hf:findF k c.fr=some i):c.free.length<c.fr.length:=by
 obtain⟨h1,h2,h3⟩:=C0 hf
 have hni:i∉c.free:=fun z=>by rw [(h.fh i h1).2 z] at h2;cases h2
 have:=Hc (l:=i::c.free) (m:=Ade c.fr.length) (Afr.2 ⟨hni,h.nd⟩) (fun x hx=>by
  rcases Adb.1 hx with rfl|hx
  ·exact Afq.2 h1
  ·exact Afq.2 (h.fl x hx))
 simp only [Acs,List.length_range] at this;omega
end Go.Gk.Cch
end
section
namespace Go.Gk.Pgr
open Go Go.Gk Go.Gk.Dev Go.Gk.Cch
structure PD where
 frm:Nat
 kinds:List Int
 fb:Nat→Sec
 syn:List Sec
 round:Nat
 tc:Nat
abbrev PD.kd(s:PD) (i:Nat):Int:=s.kinds.getD i 0
def PD.kind(s:PD) (k:Int):Int:=if (s.frm:Int)≤k∧k<(s.frm:Int)+s.kinds.length then s.kd (k - s.frm).toNat else -1
def Ef(fb:Nat→Sec) (i:Nat) (b:Sec):Nat→Sec:=fun j=>if j=i then b else fb j
def CY(x:Int):List Int→Option Nat
 |[]=>none
 |y::l=>if x=y then some 0 else(CY x l).map (·+1)
def PD.G1(s:PD) (i:Nat):PD:={s with kinds:=s.kinds.set i 1,fb:=Ef s.fb i II}
def PD.take(s:PD):Option (Nat×PD):=(CY 0 s.kinds).map fun i=>(s.frm+i,s.G1 i)
def PD.put(s:PD) (k:Int) (b:Sec):PD×Int:=if s.kind k=1 then(if b.length=256 then({s with fb:=Ef s.fb (k - s.frm).toNat b},0) else(s,2)) else(s,240)
def PD.get(s:PD) (k:Int):PD×Option Sec:=
 if s.kind k=1 then({s with tc:=s.tc+1},some (s.fb (k - s.frm).toNat)) else if s.kind k=2 then({s with tc:=s.tc+1},some (s.syn.getD k.toNat [])) else(s,none)
def PD.drop(s:PD) (k:Int):PD×Int:=
 if s.kind k=1 then({s with kinds:=s.kinds.set (k - s.frm).toNat 0},0) else if s.kind k=2 then({s with kinds:=s.kinds.set (k - s.frm).toNat 3},0) else(s,240)
def PD.writes(s:PD):Nat→List (Nat×Sec)
 |0=>[]
 |n+1=>s.writes n++(if s.kd n=1 then [(s.frm+n,s.fb n)] else [])
def PD.flush(s:PD):PD:={s with syn:=synced (s.writes s.kinds.length) s.syn}
def C3(x:Int):Int:=if x=3 then 0 else if x=1 then 2 else x
def PD.done(s:PD):PD:={s with kinds:=s.kinds.map C3,round:=s.round+1}
structure MD where
 kinds:List Int
 fb:Nat→Sec
 round:Nat
def PD.mark(s:PD):MD:=⟨s.kinds,s.fb,s.round⟩
def PD.back(s:PD) (m:MD):PD:={s with kinds:=m.kinds,fb:=m.fb}
def PD.free(s:PD):Nat:=s.kinds.countP (·==0)
def Vc(frm:Nat):List Int→Nat→List Int
 |[],_=>[]
 |x::l,i=>if x=2 then((frm+i:Nat):Int)::Vc frm l (i+1) else Vc frm l (i+1)
def PD.Cp(s:PD):List Int:=Vc s.frm s.kinds 0
structure Good (s:PD):Prop where
 one:1≤s.kinds.length
 len:s.kinds.length≤8192
 inn:s.frm+s.kinds.length≤s.syn.length
 syn:s.syn.length≤8192
 kd:∀i,0≤s.kd i∧s.kd i≤3
structure Cw (s:PD) (c:CD):Prop where
 inv:Inv (fun k=>s.syn.getD k []) s.syn.length c
 zer:∀k,Cv c k=0
 hold:∀k,findF k c.fr≠none→s.frm≤k∧k<s.frm+s.kinds.length∧2≤s.kd (k - s.frm)
theorem FN{x:Int}:∀{l:List Int}{i:Nat},CY x l=some i→∃h:i<l.length,l[i]=x
 |y::l,i,h=>by
  rw [CY] at h
  split at h
  ·rename_i e;cases h;exact⟨by simp,by simp [e]⟩
  ·cases q:CY x l with
   |none=>rw [q] at h;cases h
   |some j=>
    rw [q] at h;cases h
    obtain⟨h1,h2⟩:=FN q
    exact⟨by simpa using h1,by simpa using h2⟩
theorem SN{x:Int}{l:List Int}{i:Nat} (hi:i<l.length):CY x (l.drop i)=if x=l[i] then some 0 else(CY x (l.drop (i+1))).map (·+1):=by
 rw [Adi hi];rfl
theorem Jd{s:PD}{i:Nat} (h:i<s.kinds.length):s.kd i=s.kinds[i]:=by rw [PD.kd,Acf,Ace h];rfl
theorem C1{l:List Int}{i j:Nat}{x:Int} (hi:i<l.length):(l.set i x).getD j 0=if j=i then x else l.getD j 0:=by
 simp only [Acf,List.getElem?_set]
 by_cases e:i=j
 ·subst e;simp [hi]
 ·rw [if_neg e,if_neg (fun h=>e h.symm)]
theorem CM{s:PD}{k:Int}{x:Int} (h:s.kind k=x) (hx:0≤x):∃i,i<s.kinds.length∧k=((s.frm+i:Nat):Int)∧s.kd i=x∧(k - s.frm).toNat=i:=by
 unfold PD.kind at h
 split at h
 ·rename_i e
  exact⟨(k - s.frm).toNat,by omega,by omega,h,rfl⟩
 ·omega
theorem LY{s:PD}{i:Nat} (hi:i<s.kinds.length):s.kind ((s.frm+i:Nat):Int)=s.kd i:=by
 unfold PD.kind
 rw [if_pos (by omega)]
 congr 1;omega
theorem Good.kds{s:PD} (h:Good s) {ks:List Int}{i:Nat}{x:Int} (e:ks=s.kinds.set i x) (h0:0≤x) (h3:x≤3):Good {s with kinds:=ks}:=by
 subst e
 refine⟨by simpa using h.one,by simpa using h.len,by simpa using h.inn,h.syn,fun j=>?_⟩
 simp only [PD.kd]
 by_cases hi:i<s.kinds.length
 ·rw [C1 hi]
  split
  ·omega
  ·exact h.kd j
 ·rw [Afh (by omega)];exact h.kd j
def Og(l m:List Int):Prop:=l.length=m.length∧∀i,2≤l.getD i 0↔2≤m.getD i 0
theorem Og.refl(l:List Int):Og l l:=⟨rfl,fun _=>Iff.rfl⟩
theorem Og.trans{a b c:List Int} (h:Og a b) (k:Og b c):Og a c:=⟨h.1.trans k.1,fun i=>(h.2 i).trans (k.2 i)⟩
theorem Og.symm{a b:List Int} (h:Og a b):Og b a:=⟨h.1.symm,fun i=>(h.2 i).symm⟩
theorem Og.set{l:List Int}{i:Nat}{x:Int} (h:2≤x↔2≤l.getD i 0):Og (l.set i x) l:=by
 refine⟨by simp,fun j=>?_⟩
 by_cases hi:i<l.length
 ·rw [C1 hi]
  by_cases e:j=i
  ·subst e;rw [if_pos rfl];exact h
  ·rw [if_neg e]
 ·rw [Afh (by omega)]
theorem Cw.og{s:PD}{c:CD} (h:Cw s c) {ks:List Int} (ho:Og ks s.kinds):Cw {s with kinds:=ks} c:=
 ⟨h.inv,h.zer,fun k hk=>by
  obtain⟨h1,h2,h3⟩:=h.hold k hk
  exact⟨h1,by rw [ho.1];exact h2,(ho.2 _).2 h3⟩⟩
theorem U8{b b':Sec}{c c':CD}{k:Nat} (hf:∀i∈c.free,i<c.fr.length) (hh:c.hand<c.fr.length) (h:Eh b c k=(c',some b')):∃m i f,c'.fr=m.set i f∧El m c.fr∧i<m.length∧f.sec=k:=by
 unfold Eh at h
 cases hq:findF k c.fr with
 |some i=>
  rw [hq] at h
  cases h
  obtain⟨h1,h2,h3⟩:=C0 hq
  exact⟨c.fr,i,_,rfl,El.refl _,h1,h3⟩
 |none=>
  rw [hq] at h
  simp only at h
  cases hr:EJ c with
  |mk c1 o=>
  rw [hr] at h
  cases o with
  |none=>cases h
  |some i=>
   cases h
   have hi:=TO hh hf hr
   refine⟨c1.fr,i,_,rfl,?_,hi,rfl⟩
   unfold EJ at hr
   split at hr
   ·cases hr;exact El.refl _
   ·split at hr
    ·cases hr
    ·cases hr;exact JX _ _ _
theorem ZP{cur:Nat→Sec}{N:Nat}{c c':CD}{k:Nat}{b b':Sec} (h:Inv cur N c) (hg:Eh b c k=(c',some b')) {s:Nat} (hs:s≠k) (hn:findF s c.fr=none):findF s c'.fr=none:=by
 obtain⟨m,i,f,e1,e2,e3,e4⟩:=U8 h.fl h.hd hg
 cases q:findF s c'.fr with
 |none=>rfl
 |some j=>
  obtain⟨g1,g2,g3⟩:=C0 q
  simp only [CD.at,e1] at g1 g2 g3
  rw [at_set e3] at g2 g3
  by_cases hj:j=i
  ·rw [if_pos hj] at g3;exact absurd (g3.symm.trans e4) hs
  ·rw [if_neg hj] at g2 g3
   rw [(e2.2 j).1] at g2;rw [(e2.2 j).2.1] at g3
   exact absurd g3 (Gd hn (by rw [←e2.1];simpa using g1) g2)
theorem Cw.get{s:PD}{c:CD} (h:Cw s c) {k:Nat} (hk:k<s.syn.length) (h1:s.frm≤k) (h2:k<s.frm+s.kinds.length) (h3:2≤s.kd (k - s.frm)):
  ∃c',Eh (s.syn.getD k []) c k=(c',some (s.syn.getD k []))∧KN c 4611686018427387904∧KN c' 4611686018427387904∧(CZ c' k).2=0∧Cw s (CZ c' k).1:=by
 have hpb:∀{c:CD}{n:Nat},Inv (fun k=>s.syn.getD k []) s.syn.length c→(∀s,Cv c s≤n)→n≤1000→KN c 4611686018427387904:=fun hi hz hn f hf=>by
  have:=ZO hi hz f hf;omega
 cases hr:Eh (s.syn.getD k []) c k with
 |mk c' o=>
 cases o with
 |none=>
  obtain⟨-,g2,g3,g4⟩:=get_none (cur:=fun k=>s.syn.getD k []) h.inv hr
  exfalso
  have h0:=h.inv.n1
  have hheld:(c.at 0).held=true:=by
   cases q:(c.at 0).held with
   |true=>rfl
   |false=>have:=(h.inv.fh 0 h0).1 q;rw [g3] at this;cases this
  have e:=R9 h.inv h0 hheld
  rw [h.zer] at e
  have:=Acq.1 g4 _ (Ada h0)
  rw [show c.at 0=c.fr[0] from CO h0] at e
  simp [←e] at this
 |some b'=>
  obtain⟨g1,rfl,g3,g4,g5,g6,g7⟩:=get_some (cur:=fun k=>s.syn.getD k []) h.inv hk hr
  obtain⟨q1,q2,q3,q4,q5,q6,q7,q8⟩:=WM g1 (k:=k) (by rw [g3,if_pos rfl];omega)
  refine⟨c',rfl,hpb h.inv (n:=0) (fun s=>by rw [h.zer];omega) (by omega),hpb g1 (n:=1) (fun s=>by rw [g3,h.zer];split<;>omega) (by omega),q2,q1,fun s=>?_,fun t ht=>?_⟩
  ·rw [q3,g3,h.zer];split<;>omega
  ·rw [q8] at ht
   by_cases e:t=k
   ·subst e;exact⟨h1,h2,h3⟩
   ·exact h.hold t (fun z=>ht (ZP h.inv hr e z))
end Go.Gk.Pgr
namespace Go.Gk.Pgr
open Go Go.Gk Go.Gk.Dev Go.Gk.Cch
theorem get_put{ν:Type}{k k':Int}{v:ν}{c:Nat}:∀{ms:List (Int×ν×Nat)},Ez k' (GG k v c ms)=if k'=k then some v else Ez k' ms
 |[]=>by simp [GG,Ez]
 |p::ms=>by
  rw [GG]
  by_cases e:k=p.1
  ·rw [if_pos e,Ez,Ez]
   by_cases q:k'=k
   ·rw [if_pos (q.trans e),if_pos q]
   ·rw [if_neg (fun z=>q (z.trans e.symm)),if_neg q,if_neg (fun z=>q (z.trans e.symm))]
  ·rw [if_neg e,Ez,get_put,Ez]
   by_cases q:k'=p.1
   ·rw [if_pos q,if_pos q,if_neg (fun z=>e (z.symm.trans q))]
   ·rw [if_neg q,if_neg q]
theorem TU{ν:Type}{k k':Int} (h:k'≠k):∀{ms:List (Int×ν×Nat)},Ez k' (ID k ms)=Ez k' ms
 |[]=>rfl
 |p::ms=>by
  rw [ID]
  by_cases e:k=p.1
  ·rw [if_pos e,Ez,if_neg (fun z=>h (z.trans e.symm))]
  ·rw [if_neg e,Ez,TU h,Ez]
def PD.AV(s:PD):PD×Int×Int:=match CY 0 s.kinds with|some i=>(s.G1 i,((s.frm+i:Nat):Int),0)|none=>(s,0,190)
theorem Cw.to{s s':PD}{c:CD} (h:Cw s c) (h1:s'.frm=s.frm) (h2:s'.syn=s.syn) (ho:Og s'.kinds s.kinds):Cw s' c:=
 ⟨by rw [h2];exact h.inv,h.zer,fun k hk=>by
  obtain⟨q1,q2,q3⟩:=h.hold k hk
  rw [h1,ho.1]
  exact⟨q1,q2,(ho.2 _).2 q3⟩⟩
theorem Good.to{s s':PD} (h:Good s) (h1:s'.frm=s.frm) (h2:s'.syn.length=s.syn.length) {i:Nat}{x:Int} (e:s'.kinds=s.kinds.set i x) (h0:0≤x) (h3:x≤3):Good s':=by
 have g:=h.kds (ks:=s'.kinds) e h0 h3
 exact⟨g.one,g.len,by rw [h1,h2];exact g.inn,by rw [h2];exact g.syn,g.kd⟩
theorem Good.to'{s s':PD} (h:Good s) (h1:s'.frm=s.frm) (h2:s'.syn.length=s.syn.length) (e:s'.kinds=s.kinds):Good s':=
 ⟨by rw [e];exact h.one,by rw [e];exact h.len,by rw [h1,h2,e];exact h.inn,by rw [h2];exact h.syn,fun i=>by rw [PD.kd,e];exact h.kd i⟩
end Go.Gk.Pgr
namespace Go.Gk.Pgr
open Go Go.Gk Go.Gk.Dev Go.Gk.Cch
theorem Kw{k:Nat}:∀{l:List (Nat×Sec)}{s:List Sec},(∀w∈l,w.1≠k)→(synced l s).getD k []=s.getD k []
 |[],_,_=>rfl
 |w::l,s,h=>by
  have e:synced (w::l) s=synced l (s.set w.1 w.2):=by simp [synced]
  rw [e,Kw (fun w' hw=>h w' (Acy _ hw)),Acf,List.getElem?_set,if_neg (h w (Acu ..)),←Acf]
theorem Jk{s:PD}:∀{n:Nat}{w:Nat×Sec},w∈s.writes n→∃i,i<n∧s.kd i=1∧w=(s.frm+i,s.fb i)
 |n+1,w,h=>by
  rw [PD.writes,Acj] at h
  rcases h with h|h
  ·obtain⟨i,h1,h2⟩:=Jk h
   exact⟨i,by omega,h2⟩
  ·split at h
   ·rename_i e
    rw [Acv] at h
    exact⟨n,by omega,e,h⟩
   ·cases h
theorem N0{s:PD}:∀{n:Nat},(s.writes n).length≤n
 |0=>Ach _
 |n+1=>by
  have:=N0 (s:=s) (n:=n)
  rw [PD.writes,Acl]
  split<;>simp<;>omega
theorem Inv.AaG{cur cur':Nat→Sec}{N:Nat}{c:CD} (h:Inv cur N c) (he:∀k,findF k c.fr≠none→cur' k=cur k):Inv cur' N c:=
 {h with vl:=fun i hi hh=>⟨(h.vl i hi hh).1,by rw [(h.vl i hi hh).2,he _ (by rw [h.find hi hh rfl];simp)]⟩}
theorem Cw.flush{s:PD}{c:CD} (h:Cw s c):Cw s.flush c:=by
 refine⟨?_,h.zer,h.hold⟩
 have hl:s.flush.syn.length=s.syn.length:=Ev _ _
 rw [hl]
 refine Inv.AaG h.inv (fun k hk=>?_)
 obtain⟨h1,h2,h3⟩:=h.hold k hk
 refine Kw (fun w hw e=>?_)
 obtain⟨i,h4,h5,rfl⟩:=Jk hw
 simp only at e
 rw [←e,show s.frm+i - s.frm=i by omega] at h3
 omega
theorem Good.flush{s:PD} (h:Good s):Good s.flush:=h.to' rfl (Ev _ _) rfl
def Mid(i:Nat) (l m:List Int):Prop:=m.length=l.length∧∀j,m.getD j 0=if j<i then C3 (l.getD j 0) else l.getD j 0
theorem Mid.zero(l:List Int):Mid 0 l l:=⟨rfl,fun j=>by rw [if_neg (by omega)]⟩
theorem Mid.next{i:Nat}{l m:List Int} (h:Mid i l m) (hi:i<l.length):Mid (i+1) l (m.set i (C3 (l.getD i 0))):=by
 refine⟨by simpa using h.1,fun j=>?_⟩
 rw [C1 (by rw [h.1];exact hi),h.2]
 by_cases e:j=i
 ·subst e;rw [if_pos rfl,if_pos (by omega)]
 ·rw [if_neg e]
  by_cases q:j<i
  ·rw [if_pos q,if_pos (by omega)]
  ·rw [if_neg q,if_neg (by omega)]
theorem Mid.same{i:Nat}{l m:List Int} (h:Mid i l m) (hi:i<l.length) (hs:C3 (l.getD i 0)=l.getD i 0):Mid (i+1) l m:=by
 refine⟨h.1,fun j=>?_⟩
 rw [h.2]
 by_cases e:j=i
 ·subst e;rw [if_neg (by omega),if_pos (by omega),hs]
 ·by_cases q:j<i
  ·rw [if_pos q,if_pos (by omega)]
  ·rw [if_neg q,if_neg (by omega)]
theorem Xu{l m:List Int} (h:l.length=m.length) (he:∀j,l.getD j 0=m.getD j 0):l=m:=by
 refine Ahd h (fun j h1 h2=>?_)
 have:=he j
 rwa [Acf,Acf,Ace h1,Ace h2] at this
theorem getD_map{l:List Int}{j:Nat}:(l.map C3).getD j 0=C3 (l.getD j 0):=by
 simp only [Acf,Aep]
 cases l[j]?<;>rfl
theorem Mid.done{i:Nat}{l m:List Int} (h:Mid i l m) (hi:l.length≤i):m=l.map C3:=by
 refine Xu (by simpa using h.1) (fun j=>?_)
 rw [h.2,getD_map]
 by_cases e:j<i
 ·rw [if_pos e]
 ·rw [if_neg e,Acf,Adq (by omega)];rfl
theorem Cw.gone{s:PD}{c:CD} (h:Cw s c) {i:Nat} (hi:i<s.kinds.length) (_:s.kd i=3):Cw {s with kinds:=s.kinds.set i 0} (CW c (s.frm+i)).1:=by
 have key:∀{c':CD},(∀t,findF t c'.fr≠none→t≠s.frm+i∧findF t c.fr≠none)→∀t,findF t c'.fr≠none→s.frm≤t∧t<s.frm+(s.kinds.set i 0).length∧2≤(s.kinds.set i 0).getD (t - s.frm) 0:=fun hh t ht=>by
  obtain⟨h1,h2⟩:=hh t ht
  obtain⟨h3,h4,h5⟩:=h.hold t h2
  refine⟨h3,by simpa using h4,?_⟩
  rw [C1 hi,if_neg (by omega)]
  exact h5
 cases hf:findF (s.frm+i) c.fr with
 |none=>
  have e:(CW c (s.frm+i)).1=c:=by unfold CW;rw [hf]
  rw [e]
  exact⟨h.inv,h.zer,key (fun t ht=>⟨fun q=>ht (by rw [q];exact hf),ht⟩)⟩
 |some j=>
  obtain⟨-,h2,h3,h4⟩:=SC h.inv hf (h.zer _)
  exact⟨h2,fun t=>by rw [h4];exact h.zer t,key (fun t ht=>by
   rw [h3] at ht
   by_cases e:t=s.frm+i
   ·rw [if_pos e] at ht;exact absurd rfl ht
   ·rw [if_neg e] at ht;exact⟨e,ht⟩)⟩
theorem Cw.AbG{s:PD}{c:CD} (h:Cw s c) {i:Nat} (hi:i<s.kinds.length):Cw {s with kinds:=s.kinds.set i 2} c:=
 ⟨h.inv,h.zer,fun t ht=>by
  obtain⟨h3,h4,h5⟩:=h.hold t ht
  refine⟨h3,by simpa using h4,?_⟩
  simp only [PD.kd]
  rw [C1 hi]
  split
  ·omega
  ·exact h5⟩
end Go.Gk.Pgr
namespace Go.Gk.Pgr
theorem WJ{x:Int} (h:0≤x∧x≤3):0≤C3 x∧C3 x≤3:=by
 unfold C3
 by_cases h1:x=3
 ·rw [if_pos h1];omega
 ·rw [if_neg h1]
  by_cases h2:x=1
  ·rw [if_pos h2];omega
  ·rw [if_neg h2];omega
end Go.Gk.Pgr
namespace Go.Gk.Pgr
open Go Go.Gk Go.Gk.Dev Go.Gk.Cch
end Go.Gk.Pgr
namespace Go.Gk.Pgr
open Go Go.Gk Go.Gk.Dev Go.Gk.Cch
def Dw(n:Nat) (l:List Nat):List Int:=l.foldl (fun ks k=>ks.set k 2) (Acr n 0)
theorem U0{n k:Nat}{l:List Nat}:Dw n (l++[k])=(Dw n l).set k 2:=by simp [Dw]
theorem Qp{l:List Nat}:∀{ks:List Int},(l.foldl (fun ks k=>ks.set k 2) ks).length=ks.length:=by
 induction l with
 |nil=>intro ks;rfl
 |cons x l ih=>intro ks;rw [Ags,ih,Adf]
theorem Gh{n:Nat}{l:List Nat}:(Dw n l).length=n:=by rw [Dw,Qp,Adn]
theorem R5{l:List Nat}{j:Nat}:∀{ks:List Int},j<ks.length→(l.foldl (fun ks k=>ks.set k 2) ks).getD j 0=if j∈l then 2 else ks.getD j 0:=by
 induction l with
 |nil=>intro ks _;simp
 |cons x l ih=>
  intro ks hj
  rw [Ags,ih (by rw [Adf];exact hj)]
  by_cases h:j∈l
  ·rw [if_pos h,if_pos (Acy _ h)]
  ·rw [if_neg h]
   by_cases e:j=x
   ·subst e;rw [C1 hj,if_pos rfl,if_pos (Acu ..)]
   ·rw [if_neg (by simp [e,h])]
    by_cases hx:x<ks.length
    ·rw [C1 hx,if_neg e]
    ·rw [Afh (by omega)]
theorem Jn{n j:Nat}{l:List Nat}:(Dw n l).getD j 0=if j<n∧j∈l then 2 else 0:=by
 by_cases hj:j<n
 ·rw [Dw,R5 (by rw [Adn];exact hj)]
  by_cases h:j∈l
  ·rw [if_pos h,if_pos ⟨hj,h⟩]
  ·rw [if_neg h,if_neg (fun q=>h q.2),Acf,List.getElem?_replicate];split<;>rfl
 ·rw [if_neg (fun q=>hj q.1),Acf,Adq (by rw [Gh];omega)];rfl
theorem M8{k m:Nat}:findF k (Acr m fz)=none:=by
 cases h:findF k (Acr m fz) with
 |none=>rfl
 |some i=>
  obtain⟨h1,h2, -⟩:=EZ h
  rw [List.getElem_replicate] at h2
  cases h2
theorem Cw.new{s:PD}{m:Nat} (h1:1≤m) (h2:m≤64):Cw s ⟨Acr m fz,Ade m,0,0,0⟩:=
 ⟨Zp _ _ m h1 h2,fun k=>by rw [Cv,M8],fun k hk=>absurd M8 hk⟩
theorem Good.new{frm n:Nat}{l:List Nat}{fb:Nat→Sec}{syn:List Sec} (h1:1≤n) (h2:frm+n≤syn.length) (h3:syn.length≤8192):Good ⟨frm,Dw n l,fb,syn,0,0⟩:=
 ⟨by rw [Gh];exact h1,by rw [Gh];omega,by rw [Gh];exact h2,h3,fun i=>by
  show 0≤(Dw n l).getD i 0∧(Dw n l).getD i 0≤3
  rw [Jn];split<;>decide⟩
end Go.Gk.Pgr
end
section
namespace Go.Gk.Dev
open Go Go.Gk
attribute [local irreducible] gwp gws xwp
def Eg:Gz:=(.mk 24 [] (.seq (.g (rG (ol 4 1<|o1 5 (.nilc (tP 4))<|oj 6 1 5<|ol 7 6<|oL 8 7<|ob 9 .sub (tP 8) (kZ 1)<|om 3 9 .done))) (.block 0 (.loop (.seq (.g (sR (om 10 3<|ob 11 .geq (tP 10) (kZ 0) .done) (.cond (tP 11) .skip (.exit 0)))) (.seq (.block 1 (.seq (.yl (om 14 0<|ol 15 1<|o1 16 (.nilc (tP 15))<|oj 17 1 16<|ol 18 17<|om 19 3<|oI 20 257 18 19<|o1 21 (.ld (some 257) (tP 20)) .done) (some 22) (tP 14) [(tP 21)] (o1 23 (.un .not (tP 22)) .done)) (.g (.cond (tP 23) .ret .skip)))) (.g (rG (om 12 3<|ob 13 .sub (tP 12) (kZ 1)<|om 3 13 .done)))))))))
theorem UL{P:Program}{f:FuncId} (hd:Fb true false P f=some Eg) {D:Eo}{v:Value}{LD:List Ac}{bb l:Nat}{rc:Loop} (J:Nat→Ac→List Ac→Prop) (Jf:Loop→Ac→List Ac→Prop) {d:Ac}{E:List Ac}
  (hD:Dv d D v LD) (hb:DC d bb 0 v) (h0:J D.opn.length d E)
  (hround:∀i (hi:i<D.opn.length) d1 E1,Le d d1→J (i+1) d1 E1→I4 P l [.agg (Value.int .i64 D.opn[i].1::D.opn[i].2.map Ay).toArray] d1 (sg l (.loop rc)::E1)
   (fun u d' L'=>(u=.bool true∧∃E',L'=sg l (.loop rc)::E'∧J i d' E')∨(u=.bool false∧∃rc' E',L'=sg l (.loop rc')::E'∧Jf rc' d' E'))):
  Aw P f [.func (.yield l) #[] #[],.pointer (some ⟨bb,0,none⟩)] d (LD++(sg l (.loop rc)::E)) (Ret fun _ d' L'=>∃E' rc',L'=LD++(sg l (.loop rc')::E')∧((rc'=rc∧J 0 d' E')∨Jf rc' d' E')):=by
 obtain⟨b,T,vs,vo,r,hs,ho,rfl,rfl,h3,h4,h5,h6⟩:=hD
 have hlen:=h4.BZ
 obtain⟨ao,co,rfl⟩:=h4.val
 refine Eu hd (Aca rfl) ?_
 show xwp P _ _ _ _ _
 (apply BI;apply x_g;apply AA;apply Ag;rfl;exact BF (by assumption);apply Au;rfl;apply Ai;rfl;apply Ag;rfl;exact Aj 0 rfl rfl;apply AN;rfl;apply CX;rfl;rfl;omega;omega;apply Ab;rfl;apply Aa;apply Gc)
 refine O4 (α:=Nat) (fun i=>[(0,.func (.yield l) #[] #[]),(1,.pointer (some ⟨bb,0,none⟩)),(3,.int .i64 ((i:Int) - 1))])
  (fun i d' L'=>Le d d'∧i≤D.opn.length∧∃E',L'=[bx b T [vs,.slice ao D.opn.length co,.int .i64 r,.int .i64 0],hs,ho]++(sg l (.loop rc)::E')∧J i d' E') (fun i=>i) D.opn.length
  ⟨rfl,rfl,rfl,trivial⟩ ⟨Le.refl d,Ach _,E,rfl,h0⟩ ?_
 rintro i ρ d1 L1 ⟨hl1,hi,E1,rfl,hJ⟩
 replace hb:=hb.mono hl1
 cases i with
 |zero=>
  (apply BI;apply x_g;apply Ah;apply AA;apply Ab;rfl;apply DG;rfl;rfl;apply Aa;refine Ar rfl (by omega) ?_;apply Bj)
  exact EF [] trivial (Acb _) ⟨E1,rc,rfl,.inl ⟨rfl,hJ⟩⟩
 |succ i=>
  obtain⟨bo,To,lo,co',cs,e1,e2,hcl,hcs,hle,hr, -⟩:=Aq.at (by omega) h4 (show i<D.opn.length from hi)
  cases e1;subst e2
  obtain⟨rfl,hbl⟩:=hr
  (apply BI;apply x_g;apply Ah;apply AA;apply Ab;rfl;apply DG;rfl;rfl;apply Aa;refine Ax rfl (by omega) ?_;apply Ak;apply BI;apply Gc;apply BI;apply XT;apply FB;rfl;apply Ag;rfl;exact BF (by assumption);apply Au;rfl;apply Ai;rfl;apply Ag;rfl;exact Aj 0 rfl rfl;apply Ab;rfl)
  refine Bx i rfl rfl (by omega) hi ?_
  refine Jl _ 2 rfl rfl hcl hcs ?_
  refine FF ⟨d1,(sg l (.loop rc)::E1)++[bx b T [vs,.slice (some ⟨bo,0,none⟩) D.opn.length co,.int .i64 r,.int .i64 0],hs,bx bo To lo],Vs.perm Ack,?_⟩
  refine Pt _ _ rfl rfl rfl (hround i hi d1 E1 hl1 hJ) (fun u d2 L2 hl2 hr2=>?_)
  rcases hr2 with ⟨rfl,E2,rfl,hJ2⟩|⟨rfl,rc2,E2,rfl,hJ2⟩
  ·refine Cd d2 ([bx b T [vs,.slice (some ⟨bo,0,none⟩) D.opn.length co,.int .i64 r,.int .i64 0],hs,bx bo To lo]++(sg l (.loop rc)::E2)) (Vs.perm Ack) ?_
   (refine Bu rfl<|Aa ?_;apply x_g;refine AS rfl<|Ak ?_;apply x_g;refine AA<|Ab rfl<|CX rfl rfl (by omega) (by omega)<|Ab rfl<|Aa ?_)
   exact⟨i,by omega,⟨rfl,rfl,int_eq (by omega),trivial⟩,hl1.trans hl2,by omega,E2,rfl,hJ2⟩
  ·refine Cd d2 ([bx b T [vs,.slice (some ⟨bo,0,none⟩) D.opn.length co,.int .i64 r,.int .i64 0],hs,bx bo To lo]++(sg l (.loop rc2)::E2)) (Vs.perm Ack) ?_
   (refine Bu rfl<|Aa ?_;apply x_g;refine Bh rfl<|An ?_)
   exact EF [] trivial (Acb _) ⟨E2,rc2,rfl,.inr hJ2⟩
def EB(a0:Nat):AY:=⟨4,[(.tmp 2)],(sR (o1 1 (.box (tP 0))<|o1 2 (.mv (.const .nilFunc)) .done) (sR (o1 3 (.mkf (.func a0) [] [(tP 1)])<|om 2 3 .done) .ret))⟩
theorem WT{P:Program}{f f1:FuncId} (hd:dec P f=some (EB f1)) {d:Ac}{b:Nat}:Aw P f [.pointer (some ⟨b,0,none⟩)] d [] (Ret fun r d' L'=>∃bb,r=.func (.func f1) #[] #[.pointer (some ⟨bb,0,none⟩)]∧DC d' bb 0 (.pointer (some ⟨b,0,none⟩))∧L'=[]):=by
 refine AG hd (Aca rfl) ?_
 show gwp P _ _ _ _ _
 (refine Ad ?_)
 refine Fc rfl (fun bb T=>?_)
 (refine AL<|Aa<|Ad<|N4<|FB rfl<|Aa<|An ?_)
 refine Abf rfl (fun d' _ hk=>⟨bb,rfl,?_,rfl⟩)
 exact(Aar (hk _ (Acu ..))).at (i:=0) rfl
def RS(P:Program) (f:FuncId):Prop:=∃f1,dec P f=some (EB f1)∧Fb true false P f1=some Eg
theorem Zz{P:Program}{f f1:FuncId} (hd:dec P f=some (EB f1)) (h:Fb true false P f1=some Eg):RS P f:=⟨f1,hd,h⟩
def Pf(P:Program) (f:FuncId):Prop:=∀{d:Ac}{D:Eo}{v:Value}{L:List Ac}{k:Nat},Dv d D v L→k<D.syn.length→
 Aw P f [v,.int .i64 k] d L (Ret fun r d' L'=>∃u,r=.tuple #[u,.int .i64 0]∧AK d' u (D.cur k)∧Dv d' D v L')
theorem Um{k:Nat}{l:List (Nat×Sec)}{i:Nat} (hi:i<l.length):FC k (l.drop i)=match FC k (l.drop (i+1)) with|some b=>some b|none=>if l[i].1=k then some l[i].2 else none:=by
 rw [Adi hi];rfl
theorem PI{k:Nat}{b:Sec}:∀{l:List (Nat×Sec)},FC k l=some b→∃w∈l,w.2=b
 |w::l,h=>by
  rw [FC] at h
  cases hw:FC k l with
  |some q=>rw [hw] at h;cases h;obtain⟨x,hx,e⟩:=PI hw;exact⟨x,Acy _ hx,e⟩
  |none=>
   rw [hw] at h
   simp only at h
   split at h
   ·cases h;exact⟨w,Acu ..,rfl⟩
   ·cases h
theorem J1{k:Nat}{b:Sec}:∀{l:List (Nat×Sec)}{i:Nat},FC k (l.drop i)=some b→FC k l=some b
 |_,0,h=>h
 |[],i+1,h=>h
 |w::l,i+1,h=>by
  rw [List.drop_succ_cons] at h
  rw [FC,J1 h]
def JG(a0 a1:Nat):Gz:=(.mk 41 [(.tmp 4),(.tmp 5)] (.seq (.g (rG (o1 3 (.box (tP 1))<|o1 4 (.mv nS)<|o1 5 (.mv (kZ 0)) .done))) (.seq (.g (sR (om 9 0<|ol 10 3<|oc 11 a0 [(tP 9),(tP 10),(kZ 256)]<|om 6 11 .done) (sR (om 12 6<|ob 13 .neq (tP 12) (kZ 0) .done) (.cond (tP 13) (sR (om 14 6<|o1 4 (.mv nS)<|om 5 14 .done) .ret) .skip)))) (.seq (.g (rG (om 15 0<|o1 16 (.nilc (tP 15))<|oj 17 2 16<|ol 18 17<|ob 19 .add (tP 18) (kZ 1)<|o1 20 (.nilc (tP 15))<|oj 21 2 20<|o0 (.st 1 (tP 21) (tP 19)) .done))) (.seq (.g (.reg true (pm 22 0<|p1 23 (.nilc (tP 22))<|p1 24 (.fld 0 (tP 23))<|pl 25 24<|pl 26 3<|p1 27 (.idx 256 (tP 25) (tP 26))<|p1 28 (.ld (some 256) (tP 27))<|o1 7 (.alo (.agg CP.toArray)) (.bar (o0 (.st 256 (tP 7) (tP 28)) .done))))) (.seq (.seq (.g (rG (om 29 0<|oc 30 a1 [(tP 29)] .done))) (.block 0 (.rf (tP 30) [31] (rG (o1 8 (.alo (.agg (Value.int .i64 0::CP).toArray))<|o0 (.st 257 (tP 8) (tP 31)) .done)) (.block 1 (sR (oj 32 0 8<|ol 33 32<|ol 34 3<|ob 35 .eql (tP 33) (tP 34) .done) (.cond (tP 35) (sR (oj 36 1 8<|o1 37 (.ld (some 256) (tP 36))<|o0 (.st 256 (tP 7) (tP 37)) .done) (.exit 0)) .skip)))))) (.g (sR (o1 38 (.bsl 0 1 [(.int .u8 0)] [])<|o1 39 (.sla 256 1 (tP 7) none none none)<|o1 40 (.app 1 1 [(.int .u8 0)] (tP 38) (tP 39))<|om 4 40<|o1 5 (.mv (kZ 0)) .done) .ret))))))))
theorem Yy{P:Program}{f f1 f2:FuncId} (hd:Fb false false P f=some (JG f1 f2)) (h1:HM P f1) (h2:RS P f2):Pf P f:=by
 obtain⟨f3,h2,h3⟩:=h2
 intro d D v L k h hk
 have h0:=h
 obtain⟨b,T,vs,vo,r,hs,ho,rfl,rfl,g3,g4,g5,g6⟩:=h
 obtain⟨bs,Ts,ls,cs',us,rfl,rfl,hul,hus,hsle,hrs, -⟩:=Aq.at (by omega) g3 hk
 obtain⟨rfl,hsl⟩:=hrs
 refine Eu hd (Aca rfl) ?_
 show xwp P _ _ _ _ _
 (apply BI;apply x_g;apply AA)
 refine Fc rfl (fun kb Tk=>?_)
 (refine Am rfl<|Ab rfl<|Aa ?_;apply BI;apply x_g;refine Ad<|Al rfl<|Ag rfl (Aj 0 rfl rfl) ?_)
 refine Cd d ([bx b T [.slice (some ⟨bs,0,none⟩) D.syn.length cs',vo,.int .i64 r,.int .i64 0],bx bs Ts ls,ho]++[bx kb Tk [.int .i64 k]]) (Vs.pick [1,2,3,0] rfl) ?_
 refine CK (A:=[_,_,_]) (B:=[_]) rfl rfl (h1 (n:=256) h0 hk rfl) ?_
 (refine Ab rfl<|Aa<|Ad<|Ab rfl<|AQ rfl rfl<|Aa<|Ar rfl (by omega)<|Ak ?_;apply BI;apply x_g;refine AA<|Al rfl<|Au rfl<|Ai rfl<|Ag rfl (Aj 0 rfl rfl) ?_)
 refine Aao rfl rfl (fun r2 _=>?_)
 (refine Au rfl<|Ai rfl ?_)
 refine AZ 0 [.slice (some ⟨bs,0,none⟩) D.syn.length cs',vo,.int .i64 r2,.int .i64 0] rfl rfl rfl rfl (Aca rfl) rfl rfl ?_
 have hD:Dv d D (.pointer (some ⟨b,0,none⟩)) [bx b T [.slice (some ⟨bs,0,none⟩) D.syn.length cs',vo,.int .i64 r2,.int .i64 0],bx bs Ts ls,ho]:=⟨b,T,_,vo,r2,_,ho,rfl,rfl,g3,g4,g5,g6⟩
 (apply Aa;apply BI;apply x_g;refine Bs<|Al rfl<|Au rfl<|Ai rfl<|Ag rfl (Aj 0 rfl rfl)<|Ag rfl (Aj 3 rfl rfl)<|Bx _ rfl rfl rfl (by omega) ?_)
 refine Jl _ 1 rfl rfl hul hus ?_
 (refine BX (fun _ _=>B5 ?_))
 rename_i ob Tob
 refine Jr 4 rfl rfl rfl hul De (CC _) ?_
 (apply Aa)
 refine Aba (fun ρ d2 L2=>Le d d2∧BD ρ [(7,.pointer (some ⟨ob,0,none⟩))]∧L2=[bx b T [.slice (some ⟨bs,0,none⟩) D.syn.length cs',vo,.int .i64 r2,.int .i64 0],bx bs Ts ls,ho,bx kb Tk [.int .i64 k],bx ob Tob ((D.cur k).map Ay)]) ?_ ?_
 ·(apply BI;apply x_g;apply AA;apply Al;rfl)
  refine Dx (A:=[]) rfl rfl (WT h2) (fun u d2 L2 hl2 ⟨bb,e1,e2,e3⟩=>?_)
  subst e1;subst e3
  (apply Aa;apply Gc)
  refine Aal rfl (fun l rc hrec hst hpd=>?_)
  refine Aw.reorder (L1:=[bx b T [.slice (some ⟨bs,0,none⟩) D.syn.length cs',vo,.int .i64 r2,.int .i64 0],bx bs Ts ls,ho]++(sg l (.loop rc)::[bx kb Tk [.int .i64 k],bx ob Tob (D.syn[k].map Ay)])) ?_ (Aw.D1
   (UL h3 (rc:=rc) (l:=l) (fun i d3 E=>E=[bx kb Tk [.int .i64 k],bx ob Tob (D.syn[k].map Ay)]∧FC k (D.opn.drop i)=none)
    (fun rc' d3 E=>rc'={rc with state:=.done,pending:=some (.exit 0)}∧E=[bx kb Tk [.int .i64 k],bx ob Tob ((D.cur k).map Ay)]) (hD.mono hl2) e2 ⟨rfl,by rw [Afv];rfl⟩ ?_) ?_)
  ·exact(Ack (l₁:=[_,_,_]) (l₂:=[_])).append_right [_,_]|>.symm
  ·rintro i hi d3 E3 hl3 ⟨rfl,hno⟩
   refine K1 hrec hst rfl ?_
   have hbl:D.opn[i].2.length=256:=by
    obtain⟨bo,To,lo,co',cs,e1,e2,hcl,hcs,hle,hr, -⟩:=Aq.at (by omega) g4 hi
    exact hr.2
   have hno':=Um (k:=k) hi
   rw [hno] at hno'
   by_cases e:D.opn[i].1=k
   ·(refine AA<|BX (fun _ _=>?_))
    refine Jr 0 rfl rfl rfl (by rw [Acs,Adw,hbl]) (by rw [Acs,De]) (by rw [Agy,CC];rfl) ?_
    (refine Aa<|Az<|Ad<|Ai rfl<|Ag rfl (Aj 0 rfl rfl)<|Ag rfl (Aj 1 rfl rfl)<|AJ rfl rfl<|Aa<|Ax rfl (by omega)<|Ad<|Ai rfl ?_)
    refine Jl (D.opn[i].2.map Ay) 0 rfl rfl (by rw [Adw];exact hbl) (fun j u hu=>by rw [Nat.add_comm];simpa using hu) ?_
    skip
    refine Jr 2 rfl rfl rfl (by rw [Adw];exact hbl) (by rw [Adw];exact hsl) (CC _) ?_
    refine FF ⟨_,[_,_],Vs.drop (Acz _ _),?_⟩
    (apply Bj)
    refine Or.inr ⟨rfl,_,_,rfl,rfl,?_⟩
    rw [if_pos e] at hno'
    rw [Eo.cur,J1 hno',Afo]
   ·(refine AA<|BX (fun _ _=>?_))
    refine Jr 0 rfl rfl rfl (by rw [Acs,Adw,hbl]) (by rw [Acs,De]) (by rw [Agy,CC];rfl) ?_
    (refine Aa<|Az<|Ad<|Ai rfl<|Ag rfl (Aj 0 rfl rfl)<|Ag rfl (Aj 1 rfl rfl) ?_)
    refine Cd d3 [_,_] (Vs.drop (Acz _ _)) ?_
    (refine AJ rfl rfl<|Aa<|Ar rfl (by omega)<|Ak ?_)
    rw [if_neg e] at hno'
    exact Or.inl ⟨rfl,_,by rw [TJ hst hpd],rfl,hno'⟩
  ·rintro u d3 L3 hl3 ⟨E',rc',rfl,h⟩
   refine⟨d3,sg l (.loop rc')::([bx b T [.slice (some ⟨bs,0,none⟩) D.syn.length cs',vo,.int .i64 r2,.int .i64 0],bx bs Ts ls,ho]++E'),Vs.perm ((Ack (l₁:=[_,_,_]) (l₂:=[_])).append_right E'|>fun p=>by simpa using p),rc',_,rfl,?_⟩
   rcases h with ⟨rfl,rfl,h⟩|⟨rfl,rfl⟩
   ·refine⟨(by rw [hst];intro q;cases q),?_⟩
    rw [hpd]
    refine⟨hl2.trans hl3,⟨rfl,trivial⟩,?_⟩
    rw [Eo.cur,show FC k D.opn=none from h,Option.getD_none,Acf,Ace hk]
    rfl
   ·refine⟨(fun q=>by cases q),?_⟩
    exact⟨hl2.trans hl3,⟨rfl,trivial⟩,rfl⟩
 ·rintro ρ d2 L2 ⟨hl2,hs2,rfl⟩
  refine Ph _ hs2 ?_
  have hcl:(D.cur k).length=256:=by
   unfold Eo.cur
   cases hw:FC k D.opn with
   |none=>rw [Option.getD_none,Acf,Ace hk];exact hsl
   |some q=>
    obtain⟨w,hm,e⟩:=PI hw
    obtain⟨i,hi,rfl⟩:=Aei hm
    obtain⟨bo,To,lo,co',cs,e1,e2,hcl,hcs,hle,hr, -⟩:=Aq.at (by omega) g4 hi
    rw [Afo,←e];exact hr.2
  (apply x_g;apply Ah;apply AA)
  refine Dn (cs:=[]) (by simp) (by simp [Instr.fill,Bp]) (fun b3 T3=>?_)
  refine w_q (v:=.slice (some ⟨ob,0,none⟩) 256 256) rfl ⟨ob,0,0,256,256,rfl,rfl,rfl⟩ ?_
  refine ER (R:=AM) 0 rfl rfl (Aq.Km (R:=AM) (sz:=1)) rfl (Src.lit (ys:=D.cur k) 5 rfl hcl.symm (by simp) (CC _) (fun i hi=>?_)) (by omega) (by simp;omega) (by simp;omega) (fun v' h' ho'=>?_)
  ·simp only [AM,chunk,Aem,←Ahl,←Ahm]
   rw [Adi hi];rfl
  rw [Adr] at ho'
  (refine AL<|Ab rfl<|Aa<|An ?_)
  refine Ba [v',.int .i64 0] ⟨rfl,rfl,trivial⟩ (d':=join d2 h') (L':=[bx b T [.slice (some ⟨bs,0,none⟩) D.syn.length cs',vo,.int .i64 r2,.int .i64 0],bx bs Ts ls,ho]) ?_ ⟨v',rfl,?_,?_⟩
  ·exact Vs.freeze.trans (Vs.drop (Agg [_,_,_] [_,_]))
  ·exact Aq.rsl (R:=AM) ho' AW (by omega) (Le.AH _ _) (Le.A6 _ _)
  ·exact(hD.mono hl2).mono (Le.AH _ _)
end Go.Gk.Dev
end
section
namespace Go.Gk.Cch
open Go Go.Gk Go.Gk.Dev
attribute [local irreducible] gwp gws xwp
section
def RFr(d:Ac) (cs:List Value) (f:Fr):Prop:=∃a n c,cs=[.bool f.held,.int .i64 f.sec,.int .i64 f.pins,.bool f.late,.slice a n c]∧AK d (.slice a n c) f.b
theorem LO:F3 RFr:=fun hl ⟨a,n,c,h1,h2⟩=>⟨a,n,c,h1,h2.mono hl⟩
def wr(n:Nat):Int:=IntKind.i64.wrap (n:Int)
theorem Zt(n:Nat):IntKind.i64.wrap (wr n+1)=wr (n+1):=by
 simp [wr,IntKind.wrap,IntKind.signed,IntKind.bits];omega
section
variable {P:Program}{pan:List PanicEntry→AR}{Qn:Env→AR}{Ls L:List Ac}{ρ:Env}{d:Ac}{s:GS}{t:Nat}{tk:Bool}
theorem Kx{x y:Operand}{n:Nat} (ex:ev ρ x=.int .i64 (wr n)) (ey:ev ρ y=.int .i64 1) (h:gws P pan Qn s Ls (upd ρ t (.int .i64 (wr (n+1)))) d L):
  gws P pan Qn (.op tk ⟨some t,none,.bin .add x y⟩ s) Ls ρ d L:=Da (by rw [ex,ey];simp [CV,Zt]) h
end
def Ca(d:Ac) (c:CD) (dv cv:Value) (L:List Ac):Prop:=
 ∃b T bf cp cb hf s r bd,cv=.pointer (some ⟨b,0,none⟩)∧dv=.pointer (some ⟨bd,0,none⟩)∧
  L=[bx b T [dv,.slice (some ⟨bf,0,none⟩) c.fr.length cp,.chan (some cb),.int .i64 c.hand,.int .i64 (wr c.hits),.int .i64 (wr c.miss)],hf,sg cb (.chan c.fr.length (c.free.map fun i:Nat=>Value.int .i64 i).toArray false s r false)]∧
  Aq 5 RFr d (.slice (some ⟨bf,0,none⟩) c.fr.length cp) c.fr hf∧1≤c.fr.length∧c.fr.length≤64∧c.hand<c.fr.length∧∀i∈c.free,i<c.fr.length
theorem Ca.mono{d d':Ac}{c:CD}{dv cv:Value}{L:List Ac} (h:Ca d c dv cv L) (hl:Le d d'):Ca d' c dv cv L:=
 let ⟨b,T,bf,cp,cb,hf,s,r,bd,h1,h2,h3,h4,h5⟩:=h
 ⟨b,T,bf,cp,cb,hf,s,r,bd,h1,h2,h3,Aq.mono (R:=RFr) LO h4 hl,h5⟩
theorem Ca.mk{d:Ac}{c:CD}{b bf cp cb s r bd n:Nat}{T:TypeId}{hf:Ac} (hn:c.fr.length=n) (hg:Aq 5 RFr d (.slice (some ⟨bf,0,none⟩) n cp) c.fr hf) (h1:1≤n) (h2:n≤64) (h3:c.hand<n) (h4:∀i∈c.free,i<n):
  Ca d c (.pointer (some ⟨bd,0,none⟩)) (.pointer (some ⟨b,0,none⟩)) [bx b T [.pointer (some ⟨bd,0,none⟩),.slice (some ⟨bf,0,none⟩) n cp,.chan (some cb),.int .i64 c.hand,.int .i64 (wr c.hits),.int .i64 (wr c.miss)],hf,
   sg cb (.chan n (c.free.map fun i:Nat=>Value.int .i64 i).toArray false s r false)]:=by
 subst hn
 exact⟨b,T,bf,cp,cb,hf,s,r,bd,rfl,rfl,rfl,hg,h1,h2,h3,h4⟩
def HF(P:Program) (f:FuncId):Prop:=∀{d:Ac}{b bd:Nat}{T:TypeId}{l:List Value},CS P f [.pointer (some ⟨b,0,none⟩)] d [bx b T (.pointer (some ⟨bd,0,none⟩)::l)] (.bool false)
def Kp:AY:=⟨12,[(.tmp 2)],(sR (o1 2 (.mv (.const (.bool false))) .done) (sR (om 3 0<|o1 4 (.eqp false (tP 3) (.const (.pointer none)))<|om 5 4<|gF 6 5 0<|oF 7 5 (.nilc (tP 6))<|oF 8 5 (.fld 0 (tP 7))<|oF 9 5 (.ld none (tP 8))<|oF 10 5 (.eqp false (tP 9) (.const (.pointer none)))<|o1 11 (.pick (tP 5) (.const (.bool true)) (tP 10))<|om 2 11 .done) .ret))⟩
theorem Yd{P:Program}{f:FuncId} (hd:dec P f=some Kp):HF P f:=by
 intro d b bd T l
 refine AG hd (Aca rfl) ?_
 show gwp P _ _ _ _ _
 (refine Ad<|Ae rfl<|Aa<|Ad<|Al rfl<|C7 rfl rfl<|Ae rfl<|Af rfl<|Al rfl<|Af rfl<|Au rfl<|Af rfl<|Ai rfl<|Af rfl<|Ag rfl (Aj 0 rfl rfl)<|Af rfl<|C7 rfl rfl<|As rfl rfl<|Ae rfl<|Aa<|An ?_)
 exact JO rfl (Acb _)
def Je(P:Program) (f:FuncId):Prop:=∀{d:Ac}{b bf cp:Nat}{T:TypeId}{x0 x1 x2 x3 x4:Value}{hf:Ac}{fs:List Fr}{k:Nat},Aq 5 RFr d (.slice (some ⟨bf,0,none⟩) fs.length cp) fs hf→
 CS P f [.pointer (some ⟨b,0,none⟩),.int .i64 k] d [bx b T [x0,.slice (some ⟨bf,0,none⟩) fs.length cp,x1,x2,x3,x4],hf]
  (match findF k fs with|some i=>.tuple #[.pointer (some ⟨bf,i*5,none⟩),.int .i64 i]|none=>.tuple #[.pointer none,.int .i64 0])
def Kh:AY:=⟨43,[(.tmp 4),(.tmp 5)],(sR (o1 4 (.mv (.const (.pointer none)))<|o1 5 (.mv (kZ 0)) .done) (.seq (sR (om 7 0<|o1 8 (.nilc (tP 7))<|oj 9 1 8<|ol 10 9<|oL 11 10<|o1 12 (.mv (kZ 0)) .done) (.block 0 (.loop (sR (ob 13 .lss (tP 12) (tP 11) .done) (.seq (.cond (tP 13) .skip (.exit 0)) (.seq (.block 1 (sR (om 14 12<|om 6 14 .done) (sR (om 15 0<|o1 16 (.nilc (tP 15))<|oj 17 1 16<|ol 18 17<|om 19 6<|oI 20 5 18 19<|oj 21 0 20<|ol 22 21<|om 23 22<|gT 24 23 0<|oT 25 23 (.nilc (tP 24))<|oT 26 23 (.fld 1 (tP 25))<|oT 27 23 (.ld none (tP 26))<|gT 28 23 6<|oT 29 23 (.idx 5 (tP 27) (tP 28))<|oT 30 23 (.fld 1 (tP 29))<|oT 31 23 (.ld none (tP 30))<|gT 32 23 1<|oT 33 23 (.bin .eql (tP 31) (tP 32))<|gP 34 23 33 .done) (.cond (tP 34) (sR (om 35 0<|o1 36 (.nilc (tP 35))<|oj 37 1 36<|ol 38 37<|om 39 6<|oI 40 5 38 39<|om 41 6<|om 4 40<|om 5 41 .done) .ret) .skip)))) (rG (ob 42 .add (tP 12) (kZ 1)<|om 12 42 .done)))))))) (sR (o1 4 (.mv (.const (.pointer none)))<|o1 5 (.mv (kZ 0)) .done) .ret)))⟩
theorem XI{P:Program}{f:FuncId} (hd:dec P f=some Kh):Je P f:=by
 intro d b bf cp T x0 x1 x2 x3 x4 hf fs k h
 have hlen:=h.BZ
 refine AG hd (Aca rfl) ?_
 show gwp P _ _ _ _ _
 (refine Ad<|Al rfl<|Ab rfl<|Aa<|Ah<|Ad<|Al rfl<|Au rfl<|Ai rfl<|Ag rfl (Aj 0 rfl rfl)<|AN rfl<|Ab rfl<|Aa<|Az ?_)
 refine CU (α:=Nat) (fun i=>[(0,.pointer (some ⟨b,0,none⟩)),(1,.int .i64 k),(11,.int .i64 fs.length),(12,.int .i64 i)]) (fun _=>[bx b T [x0,.slice (some ⟨bf,0,none⟩) fs.length cp,x1,x2,x3,x4],hf])
  (fun i=>i≤fs.length∧findF k fs=(findF k (fs.drop i)).map (·+i)) (fun i=>fs.length - i) 0 ⟨rfl,rfl,rfl,rfl,trivial⟩ rfl ⟨by omega,by simp⟩ ?_
 rintro i ρ ⟨hi,hF⟩
 by_cases e:i<fs.length
 ·obtain⟨b1,T1,l1,c1,cs,q1,rfl,hcl,hcs,hle,⟨a,n,c,rfl,hb⟩, -⟩:=Aq.at (by omega) h e
  cases q1
  have c0:=hcs 0 _ rfl
  have c1:=hcs 1 _ rfl
  rw [Uo e] at hF
  have hnext:¬(fs[i].held=true∧fs[i].sec=k)→findF k fs=(findF k (fs.drop (i+1))).map (·+(i+1)):=fun q=>by
   rw [hF,if_neg q,Option.map_map];congr 1;funext x;simp only [Function.comp];omega
  cases hh:fs[i].held with
  |false=>
   rw [hh] at c0
   (refine Ad<|AE rfl rfl<|Aa<|Ah<|Ax rfl (by omega)<|Ak<|Ah<|Az<|Ad<|Ab rfl<|Ab rfl<|Aa<|Ad<|Al rfl<|Au rfl<|Ai rfl<|Ag rfl (Aj 0 rfl rfl)<|Ab rfl<|Bx _ rfl rfl rfl (by omega)<|Ai rfl<|Ag rfl (Aj 1 rfl (by assumption))<|Ae rfl<|Ap rfl<|Ap rfl<|Ap rfl<|Ap rfl<|Ap rfl<|Ap rfl<|Ap rfl<|Ap rfl<|Ap rfl<|Ap rfl<|As rfl rfl<|Aa<|AS rfl<|Ak<|AA<|AO rfl rfl (by omega) (by omega)<|Ab rfl<|Aa ?_)
   exact⟨i+1,by omega,⟨rfl,rfl,rfl,rfl,trivial⟩,rfl,rfl,e,hnext (by rw [hh];rintro⟨q,_⟩;cases q)⟩
  |true=>
   rw [hh] at c0
   by_cases hs:fs[i].sec=k
   ·(refine Ad<|AE rfl rfl<|Aa<|Ah<|Ax rfl (by omega)<|Ak<|Ah<|Az<|Ad<|Ab rfl<|Ab rfl<|Aa<|Ad<|Al rfl<|Au rfl<|Ai rfl<|Ag rfl (Aj 0 rfl rfl)<|Ab rfl<|Bx _ rfl rfl rfl (by omega)<|Ai rfl<|Ag rfl (Aj 1 rfl (by assumption))<|Ae rfl<|Af rfl<|Al rfl<|Af rfl<|Au rfl<|Af rfl<|Ai rfl<|Af rfl<|Ag rfl (Aj 0 rfl rfl)<|Af rfl<|Ab rfl<|Af rfl<|Bx _ rfl rfl rfl (by omega)<|Af rfl<|Ai rfl<|Af rfl<|Ag rfl (Aj 1 rfl (by assumption))<|Af rfl<|Ab rfl<|Af rfl<|AJ rfl rfl<|AF rfl rfl<|Aa<|Ax rfl (by omega)<|Ad<|Al rfl<|Au rfl<|Ai rfl<|Ag rfl (Aj 0 rfl rfl)<|Ab rfl<|Bx _ rfl rfl rfl (by omega)<|Ab rfl<|Al rfl<|Ab rfl<|Aa<|An ?_)
    rw [show findF k fs=some i by rw [hF,if_pos ⟨hh,hs⟩,Aeq,Aeh]]
    exact Y0 rfl rfl (Acb _)
   ·(refine Ad<|AE rfl rfl<|Aa<|Ah<|Ax rfl (by omega)<|Ak<|Ah<|Az<|Ad<|Ab rfl<|Ab rfl<|Aa<|Ad<|Al rfl<|Au rfl<|Ai rfl<|Ag rfl (Aj 0 rfl rfl)<|Ab rfl<|Bx _ rfl rfl rfl (by omega)<|Ai rfl<|Ag rfl (Aj 1 rfl (by assumption))<|Ae rfl<|Af rfl<|Al rfl<|Af rfl<|Au rfl<|Af rfl<|Ai rfl<|Af rfl<|Ag rfl (Aj 0 rfl rfl)<|Af rfl<|Ab rfl<|Af rfl<|Bx _ rfl rfl rfl (by omega)<|Af rfl<|Ai rfl<|Af rfl<|Ag rfl (Aj 1 rfl (by assumption))<|Af rfl<|Ab rfl<|Af rfl<|AJ rfl rfl<|AF rfl rfl<|Aa<|Ar rfl (by omega)<|Ak<|AA<|AO rfl rfl (by omega) (by omega)<|Ab rfl<|Aa ?_)
    exact⟨i+1,by omega,⟨rfl,rfl,rfl,rfl,trivial⟩,rfl,rfl,e,hnext (by rintro⟨_,q⟩;exact hs q)⟩
 ·(refine Ad<|AE rfl rfl<|Aa<|Ah<|Ar rfl (by omega)<|Bj<|Ad<|Al rfl<|Ab rfl<|Aa<|An ?_)
  have:findF k fs=none:=by
   rw [hF,Aex (by omega)];rfl
  rw [this]
  exact Y0 rfl rfl (Acb _)
def Ki(P:Program) (f:FuncId):Prop:=∀{d:Ac}{b bf cp:Nat}{T:TypeId}{x0 x1 x2 x3 x4:Value}{hf:Ac}{fs:List Fr},Aq 5 RFr d (.slice (some ⟨bf,0,none⟩) fs.length cp) fs hf→
 CS P f [.pointer (some ⟨b,0,none⟩)] d [bx b T [x0,.slice (some ⟨bf,0,none⟩) fs.length cp,x1,x2,x3,x4],hf] (.bool (Cg fs))
theorem Rs{fs:List Fr}{i:Nat} (hi:i<fs.length) (h:fs[i].pins=0):Cg fs=false:=by
 unfold Cg;rw [List.all_eq_false];exact⟨_,Ada hi,by simp [h]⟩
def Jx:AY:=⟨18,[(.tmp 2)],(sR (o1 2 (.mv (.const (.bool false))) .done) (.seq (sR (om 5 0<|o1 6 (.nilc (tP 5))<|oj 7 1 6<|ol 8 7<|oL 9 8<|o1 10 (.mv (kZ 0)) .done) (.block 0 (.loop (sR (ob 11 .lss (tP 10) (tP 9) .done) (.seq (.cond (tP 11) .skip (.exit 0)) (.seq (.block 1 (sR (oI 12 5 8 10<|o1 13 (.ld (some 5) (tP 12))<|o1 4 (.alo (.agg #[(.bool false),(.int .i64 0),(.int .i64 0),(.bool false),(.slice none 0 0)]))<|o0 (.st 5 (tP 4) (tP 13)) .done) (sR (oj 14 2 4<|ol 15 14<|ob 16 .eql (tP 15) (kZ 0) .done) (.cond (tP 16) (sR (o1 2 (.mv (.const (.bool false))) .done) .ret) .skip)))) (rG (ob 17 .add (tP 10) (kZ 1)<|om 10 17 .done)))))))) (sR (o1 2 (.mv (.const (.bool true))) .done) .ret)))⟩
theorem UQ{P:Program}{f:FuncId} (hd:dec P f=some Jx):Ki P f:=by
 intro d b bf cp T x0 x1 x2 x3 x4 hf fs h
 have hlen:=h.BZ
 refine AG hd (Aca rfl) ?_
 show gwp P _ _ _ _ _
 (refine Ad<|Ae rfl<|Aa<|Ah<|Ad<|Al rfl<|Au rfl<|Ai rfl<|Ag rfl (Aj 0 rfl rfl)<|AN rfl<|Ab rfl<|Aa<|Az ?_)
 refine CU (α:=Nat) (fun i=>[(8,.slice (some ⟨bf,0,none⟩) fs.length cp),(9,.int .i64 fs.length),(10,.int .i64 i)]) (fun _=>[bx b T [x0,.slice (some ⟨bf,0,none⟩) fs.length cp,x1,x2,x3,x4],hf])
  (fun i=>i≤fs.length∧Cg (fs.take i)=true) (fun i=>fs.length - i) 0 ⟨rfl,rfl,rfl,trivial⟩ rfl ⟨by omega,by simp [Cg]⟩ ?_
 rintro i ρ ⟨hi,hF⟩
 by_cases e:i<fs.length
 ·obtain⟨b1,T1,l1,c1,cs,q1,rfl,hcl,hcs,hle,⟨a,n,c,rfl,hb⟩, -⟩:=Aq.at (by omega) h e
  cases q1
  (refine Ad<|AE rfl rfl<|Aa<|Ah<|Ax rfl (by omega)<|Ak<|Ah<|Az<|Ad<|Bx _ rfl rfl rfl (by omega) ?_)
  refine Jl _ 1 rfl rfl hcl hcs ?_
  (apply BX;intro _ _)
  refine Jr 0 rfl rfl rfl rfl rfl rfl ?_
  by_cases hp:fs[i].pins=0
  ·(refine Aa<|Ad<|Ai rfl<|Ag rfl (Aj 0 rfl rfl)<|AJ rfl rfl<|Aa<|Ax rfl (by omega)<|Ad<|Ae rfl<|Aa<|An ?_)
   refine BE rfl (L':=[_,_]) (Acz _ _) ⟨?_,rfl,rfl⟩
   rw [Rs e hp];rfl
  ·(refine Aa<|Ad<|Ai rfl<|Ag rfl (Aj 0 rfl rfl) ?_)
   refine Cd d [_,_] (Vs.drop (Acz _ _)) ?_
   (refine AJ rfl rfl<|Aa<|Ar rfl (by omega)<|Ak<|AA<|AO rfl rfl (by omega) (by omega)<|Ab rfl<|Aa ?_)
   refine⟨i+1,by omega,⟨rfl,rfl,rfl,trivial⟩,rfl,rfl,e,?_⟩
   rw [Acx e]
   unfold Cg at hF⊢
   rw [List.all_append,hF]
   simp [hp]
 ·(refine Ad<|AE rfl rfl<|Aa<|Ah<|Ar rfl (by omega)<|Bj<|Ad<|Ae rfl<|Aa<|An ?_)
  rw [Aed (by omega)] at hF
  rw [hF]
  exact JO rfl (Acb _)
def Ny(P:Program) (f:FuncId):Prop:=∀{d:Ac}{c:CD}{dv cv:Value}{L:List Ac},Ca d c dv cv L→(∀f∈c.fr,f.pins≤4611686018427387904)→
 Aw P f [cv] d L (Ret fun r d' L'=>d'=d∧(Cg c.fr=true→r=.tuple #[.int .i64 0,.bool false]∧L'=L)∧
  (Cg c.fr=false→r=.tuple #[.int .i64 (Cn (C8 c.fr c.hand+1) c.fr c.hand).2.2,.bool true]∧Ca d {c with fr:=(Cn (C8 c.fr c.hand+1) c.fr c.hand).1,hand:=(Cn (C8 c.fr c.hand+1) c.fr c.hand).2.1} dv cv L'))
theorem Ig{l:List Fr}{h:Nat} (hh:h<l.length):l.getD h fz=l[h]:=by rw [Acf,Ace hh];rfl
def J6(a0:Nat):AY:=⟨47,[(.tmp 2),(.tmp 3)],(sR (o1 2 (.mv (kZ 0))<|o1 3 (.mv (.const (.bool false))) .done) (.seq (sR (om 6 0<|oc 7 a0 [(tP 6)] .done) (.cond (tP 7) (sR (o1 2 (.mv (kZ 0))<|o1 3 (.mv (.const (.bool false))) .done) .ret) .skip)) (.block 0 (.loop (.block 1 (sR (om 8 0<|o1 9 (.nilc (tP 8))<|oj 10 3 9<|ol 11 10<|om 4 11 .done) (.seq (.reg true (pm 12 0<|pm 13 0<|p1 14 (.nilc (tP 13))<|p1 15 (.fld 3 (tP 14))<|pm 18 0<|p1 19 (.nilc (tP 18))<|p1 20 (.fld 1 (tP 19)) (.alt ⟨(some 16),none,(.ld none (tP 15))⟩ (p1 17 (.bin .add (tP 16) (kZ 1)) (ol 21 20 (p1 22 (.len (tP 21)) (p1 23 (.bin .rem (tP 17) (tP 22)) (p1 24 (.nilc (tP 12)) (p1 25 (.fld 3 (tP 24)) (o0 (.st 1 (tP 25) (tP 23)) .done))))))) (ol 21 20 (p1 22 (.len (tP 21)) (ol 16 15 (p1 17 (.bin .add (tP 16) (kZ 1)) (p1 23 (.bin .rem (tP 17) (tP 22)) (p1 24 (.nilc (tP 12)) (p1 25 (.fld 3 (tP 24)) (o0 (.st 1 (tP 25) (tP 23)) .done))))))))))) (sR (om 26 0<|o1 27 (.nilc (tP 26))<|oj 28 1 27<|ol 29 28<|om 30 4<|oI 31 5 29 30<|om 5 31 .done) (.block 2 (sR (om 34 5<|o1 35 (.nilc (tP 34))<|oj 36 2 35<|ol 37 36<|ob 38 .gtr (tP 37) (kZ 0)<|om 33 38 .done) (.cond (tP 33) .skip (sR (om 40 5<|o1 41 (.nilc (tP 40))<|oj 42 3 41<|ol 43 42<|om 39 43 .done) (.cond (tP 39) (rG (om 44 5<|o1 45 (.nilc (tP 44))<|oj 46 3 45<|o0 (.st 1 (tP 46) (.const (.bool false))) .done)) (sR (om 32 4<|om 2 32<|o1 3 (.mv (.const (.bool true))) .done) .ret))))))))))))))⟩
theorem Vm{P:Program}{f f1:FuncId} (hd:dec P f=some (J6 f1)) (h1:Ki P f1):Ny P f:=by
 intro d c dv cv L h hpb
 obtain⟨b,T,bf,cp,cb,hf,s,r,bd,rfl,rfl,rfl,hg,hl1,hl2,hh,hfr⟩:=h
 refine AG hd (Aca rfl) ?_
 show gwp P _ _ _ _ _
 (refine Ad<|Ab rfl<|Ae rfl<|Aa<|Ah<|Ad<|Al rfl ?_)
 refine CK (A:=[_,_]) (B:=[_]) rfl rfl (h1 hg) ?_
 cases hp:Cg c.fr with
 |true=>
  (refine Aa<|Bh rfl<|Ad<|Ab rfl<|Ae rfl<|Aa<|An ?_)
  exact CF rfl rfl (Acb _) ⟨rfl,fun _=>⟨rfl,rfl⟩,fun q=>by cases q⟩
 |false=>
  (refine Aa<|AS rfl<|Ak<|Az ?_)
  refine CL (α:=List Fr×Nat×Ac) (fun x=>[(0,.pointer (some ⟨b,0,none⟩))])
   (fun x d' L'=>d'=d∧x.1.length=c.fr.length∧x.2.1<c.fr.length∧Cg x.1=false∧(∀f∈x.1,f.pins≤4611686018427387904)∧Cn (C8 x.1 x.2.1+1) x.1 x.2.1=Cn (C8 c.fr c.hand+1) c.fr c.hand∧
    L'=[bx b T [.pointer (some ⟨bd,0,none⟩),.slice (some ⟨bf,0,none⟩) c.fr.length cp,.chan (some cb),.int .i64 x.2.1,.int .i64 (wr c.hits),.int .i64 (wr c.miss)],x.2.2,sg cb (.chan c.fr.length (c.free.map fun i:Nat=>Value.int .i64 i).toArray false s r false)]∧
    Aq 5 RFr d (.slice (some ⟨bf,0,none⟩) c.fr.length cp) x.1 x.2.2) (fun x=>C8 x.1 x.2.1) (c.fr,c.hand,hf) ⟨rfl,trivial⟩ ⟨rfl,rfl,hh,hp,hpb,rfl,rfl,hg⟩ ?_
  rintro⟨fs,hand,hf'⟩ ρ d' L' ⟨rfl,hlen,hhand,hpin,hpb',hsw,rfl,hg'⟩
  simp only at hlen hhand hpin hpb' hsw hg'⊢
  rw [←hlen] at hg'
  obtain⟨b1,T1,l1,c1,cs,q1,rfl,hcl,hcs,hle,⟨a,n,c',rfl,hb⟩,hset⟩:=Aq.at (by omega) hg' (show hand<fs.length by omega)
  cases q1
  have c2:=hcs 2 _ rfl
  have c3:=hcs 3 _ rfl
  have hgd:fs.getD hand fz=fs[hand]:=Ig (by omega)
  (refine Az<|Ad ?_)
  (refine Al rfl<|Au rfl<|Ai rfl<|Ag rfl (Aj 0 rfl rfl)<|Ab rfl<|Aa ?_)
  refine FU (fun ρ d2 L'=>BD ρ [(0,.pointer (some ⟨b,0,none⟩)),(4,.int .i64 hand)]∧d2=d'∧L'=[bx b T [.pointer (some ⟨bd,0,none⟩),.slice (some ⟨bf,0,none⟩) c.fr.length cp,.chan (some cb),.int .i64 (Cu fs hand:Nat),.int .i64 (wr c.hits),.int .i64 (wr c.miss)],bx bf T1 l1,sg cb (.chan c.fr.length (c.free.map fun i:Nat=>Value.int .i64 i).toArray false s r false)]) ?_ ?_
  ·refine Bv [] _ rfl ?_
   have en:((hand:Int)+1) % (c.fr.length:Int)=(Cu fs hand:Nat):=by unfold Cu;rw [hlen];simp
   (refine Al rfl<|Al rfl<|Au rfl<|Ai rfl<|Al rfl<|Au rfl<|Ai rfl ?_)
   refine Es ?_ ?_
   ·(refine Ag rfl (Aj 0 rfl rfl)<|AO rfl rfl (by omega) (by omega)<|Ag rfl (Aj 0 rfl rfl)<|AN rfl<|Un rfl rfl (by omega) (by omega)<|Au rfl<|Ai rfl ?_)
    refine AZ 0 [.pointer (some ⟨bd,0,none⟩),.slice (some ⟨bf,0,none⟩) c.fr.length cp,.chan (some cb),.int .i64 (Cu fs hand:Nat),.int .i64 (wr c.hits),.int .i64 (wr c.miss)] rfl rfl rfl rfl (Aca rfl) rfl (by rw [←en];rfl) ?_
    exact Aa ⟨⟨rfl,rfl,trivial⟩,rfl,rfl⟩
   ·(refine Ag rfl (Aj 0 rfl rfl)<|AN rfl<|Ag rfl (Aj 0 rfl rfl)<|AO rfl rfl (by omega) (by omega)<|Un rfl rfl (by omega) (by omega)<|Au rfl<|Ai rfl ?_)
    refine AZ 0 [.pointer (some ⟨bd,0,none⟩),.slice (some ⟨bf,0,none⟩) c.fr.length cp,.chan (some cb),.int .i64 (Cu fs hand:Nat),.int .i64 (wr c.hits),.int .i64 (wr c.miss)] rfl rfl rfl rfl (Aca rfl) rfl (by rw [←en];rfl) ?_
    exact Aa ⟨⟨rfl,rfl,trivial⟩,rfl,rfl⟩
  ·rintro ρ d2 L2 ⟨hs2,rfl,rfl⟩
   refine Di _ hs2 ?_
   by_cases hp0:fs[hand].pins=0
   ·cases hla:fs[hand].late with
    |false=>
     rw [hla] at c3
     have ht:Bz fs hand=true:=by unfold Bz;rw [hgd,hp0,hla];rfl
     (refine Ad<|Al rfl<|Au rfl<|Ai rfl<|Ag rfl (Aj 0 rfl rfl)<|Ab rfl<|Bx _ rfl rfl rfl (by omega)<|Al rfl<|Aa<|Az<|Ad<|Al rfl<|Au rfl<|Ai rfl<|Ag rfl (Aj 1 rfl (by assumption))<|BQ rfl rfl<|Ae rfl<|Aa<|Ar rfl (by omega)<|Ad<|Al rfl<|Au rfl<|Ai rfl<|Ag rfl (Aj 1 rfl (by assumption))<|Ae rfl<|Aa<|AS rfl<|Ad<|Ab rfl<|Ab rfl<|Ae rfl<|Aa<|An ?_)
     have hres:Cn (C8 c.fr c.hand+1) c.fr c.hand=(fs,Cu fs hand,hand):=by rw [←hsw,Cn,ht];rfl
     rw [hres]
     refine CF rfl rfl (Acb _) ⟨rfl,(fun q=>nomatch q),fun _=>⟨rfl,?_⟩⟩
     refine⟨b,T,bf,cp,cb,_,s,r,bd,rfl,rfl,?_,hg',by simp only;omega,by simp only;omega,Afn _ (by omega),by rw [hlen];exact hfr⟩
     simp only [hlen]
    |true=>
     rw [hla] at c3
     have ht:Bz fs hand=false:=by unfold Bz;rw [hgd,hp0,hla];rfl
     have hpass:Dm fs hand=fs.set hand {fs[hand] with late:=false}:=by rw [Dm,hgd,if_pos hp0]
     have hg2:=hset [.bool fs[hand].held,.int .i64 fs[hand].sec,.int .i64 fs[hand].pins,.bool false,.slice a n c'] {fs[hand] with late:=false} rfl ⟨a,n,c',rfl,hb⟩
     rw [←hpass] at hg2
     (refine Ad<|Al rfl<|Au rfl<|Ai rfl<|Ag rfl (Aj 0 rfl rfl)<|Ab rfl<|Bx _ rfl rfl rfl (by omega)<|Al rfl<|Aa<|Az<|Ad<|Al rfl<|Au rfl<|Ai rfl<|Ag rfl (Aj 1 rfl (by assumption))<|BQ rfl rfl<|Ae rfl<|Aa<|Ar rfl (by omega)<|Ad<|Al rfl<|Au rfl<|Ai rfl<|Ag rfl (Aj 1 rfl (by assumption))<|Ae rfl<|Aa<|Bh rfl<|AA<|Al rfl<|Au rfl<|Ai rfl ?_)
     refine AZ 1 _ rfl rfl rfl rfl (by omega) rfl (Hm (cs:=[.bool fs[hand].held,.int .i64 fs[hand].sec,.int .i64 fs[hand].pins,.bool true,.slice a n c']) (fun j u hu=>hcs j u (by rw [hla];exact hu)) (by simp) (by simp;omega)) ?_
     (apply Aa)
     refine⟨(Dm fs hand,Cu fs hand,_),G3 (by omega) hpin ht,⟨rfl,trivial⟩,rfl,by rw [EV];exact hlen,by simp only;rw [←hlen];exact Afn _ (by omega),by rw [GU];exact hpin,?_,(NX (by omega) hpin ht).trans hsw,rfl,by simp only;rw [←hlen];exact hg2⟩
     intro f hf
     rw [hpass] at hf
     rcases List.mem_or_eq_of_mem_set hf with hf|rfl
     ·exact hpb' f hf
     ·simp only;omega
   ·have ht:Bz fs hand=false:=by unfold Bz;rw [hgd];simp [hp0]
    have hpass:Dm fs hand=fs:=by rw [Dm,hgd,if_neg hp0]
    (refine Ad<|Al rfl<|Au rfl<|Ai rfl<|Ag rfl (Aj 0 rfl rfl)<|Ab rfl<|Bx _ rfl rfl rfl (by omega)<|Al rfl<|Aa<|Az<|Ad<|Al rfl<|Au rfl<|Ai rfl<|Ag rfl (Aj 1 rfl (by assumption))<|BQ rfl rfl<|Ae rfl<|Aa<|Ax rfl (by omega)<|Ak ?_)
    have h1:=G3 (by omega) hpin ht
    have h2:=(NX (by omega) hpin ht).trans hsw
    rw [hpass] at h1 h2
    exact⟨(fs,Cu fs hand,_),h1,⟨rfl,trivial⟩,rfl,hlen,by simp only;rw [←hlen];exact Afn _ (by omega),hpin,hpb',h2,rfl,by simp only;rw [←hlen];exact hg'⟩
end
def AbI(o:Option Nat):Value:=match o with|some i=>.tuple #[.int .i64 i,.bool true]|none=>.tuple #[.int .i64 0,.bool false]
def OZ(P:Program) (f:FuncId):Prop:=∀{d:Ac}{c:CD}{dv cv:Value}{L:List Ac},Ca d c dv cv L→KN c 4611686018427387904→
 Aw P f [cv] d L (Ret fun r d' L'=>d'=d∧r=AbI (EJ c).2∧Ca d (EJ c).1 dv cv L')
def Lh(a0:Nat):Gz:=(.mk 18 [(.tmp 2),(.tmp 3)] (.seq (.g (rG (o1 2 (.mv (kZ 0))<|o1 3 (.mv (.const (.bool false))) .done))) (.seq (.g (rG (om 5 0<|o1 6 (.nilc (tP 5))<|oj 7 2 6<|ol 8 7 .done))) (.seq (.sel .done (some 9) (tP 8) (.int .i64 0) (oe 10 9 0<|ob 11 .eql (tP 10) (kZ 0) .done)) (.g (.block 0 (.cond (tP 11) (sR (oe 16 9 2<|om 4 16 .done) (sR (om 17 4<|om 2 17<|o1 3 (.mv (.const (.bool true))) .done) .ret)) (sR (om 12 0<|oc 13 a0 [(tP 12)]<|oe 14 13 0<|oe 15 13 1<|om 2 14<|om 3 15 .done) .ret))))))))
theorem Ye{P:Program}{f f1:FuncId} (hd:Fb false false P f=some (Lh f1)) (h1:Ny P f1):OZ P f:=by
 intro d c dv cv L h hpb
 have h0:=h
 obtain⟨b,T,bf,cp,cb,hf,s,r,bd,rfl,rfl,rfl,hg,hl1,hl2,hh,hfr⟩:=h
 refine Eu hd (Aca rfl) ?_
 show xwp P _ _ _ _ _
 (apply BI;apply x_g;apply AA;apply Ab;rfl;apply Ae;rfl;apply Aa;apply BI;apply x_g;apply AA;apply Al;rfl;apply Au;rfl;apply Ai;rfl;apply Ag;rfl;exact Aj 0 rfl rfl;apply Aa;apply BI;apply Aa5;apply Aa)
 have hcase:c.free=[]∨∃i rest,c.free=i::rest:=by cases c.free with|nil=>exact .inl rfl|cons i r=>exact .inr ⟨i,r,rfl⟩
 rcases hcase with hfe|⟨i,rest,hfe⟩
 ·refine VG 2 rfl (by rw [hfe];rfl) ?_
  (refine Ao rfl rfl<|AJ rfl rfl<|Aa ?_;apply x_g;refine Az<|Ar rfl (by omega)<|Ad<|Al rfl ?_)
  refine Dx (B:=[]) rfl rfl (h1 h0 hpb) (fun u d' L' _ ⟨e1,e2,e3⟩=>?_)
  subst e1
  cases hp:Cg c.fr with
  |true=>
   obtain⟨rfl,rfl⟩:=e2 hp
   (refine Ao rfl rfl<|Ao rfl rfl<|Ab rfl<|Ae rfl<|Aa<|An ?_)
   have hr:EJ c=(c,none):=by unfold EJ;rw [hfe];simp only [hp,if_true]
   rw [hr]
   exact CF rfl rfl (Acb _) ⟨rfl,rfl,h0⟩
  |false=>
   obtain⟨rfl,hc⟩:=e3 hp
   (refine Ao rfl rfl<|Ao rfl rfl<|Ab rfl<|Ae rfl<|Aa<|An ?_)
   have hr:EJ c=({c with fr:=(Cn (C8 c.fr c.hand+1) c.fr c.hand).1,hand:=(Cn (C8 c.fr c.hand+1) c.fr c.hand).2.1},some (Cn (C8 c.fr c.hand+1) c.fr c.hand).2.2):=by
    unfold EJ;rw [hfe];simp only [hp,Aci,if_false]
   rw [hr]
   exact CF rfl rfl (Acb _) ⟨rfl,rfl,by rw [Ads];exact hc⟩
 ·refine VW (v:=.int .i64 i) (buf:=rest.map fun i:Nat=>Value.int .i64 i) 2 rfl (by rw [hfe];rfl) ?_
  (refine Ao rfl rfl<|AJ rfl rfl<|Aa ?_;apply x_g;refine Az<|Ax rfl (by omega)<|Ad<|Ao rfl rfl<|Ab rfl<|Aa<|Ad<|Ab rfl<|Ab rfl<|Ae rfl<|Aa<|An ?_)
  have hr:EJ c=({c with free:=rest},some i):=by unfold EJ;rw [hfe]
  rw [hr]
  exact CF rfl rfl (Acb _) ⟨rfl,rfl,b,T,bf,cp,cb,hf,s,r+1,bd,rfl,rfl,rfl,hg,hl1,hl2,hh,fun j hj=>hfr j (by rw [hfe];exact Acy _ hj)⟩
def AaU(d:Ac) (r:Value) (o:Option Sec):Prop:=match o with|some b=>∃u,r=.tuple #[u,.int .i64 0]∧AK d u b|none=>r=.tuple #[.slice none 0 0,.int .i64 180]
def Kq(P:Program) (f:FuncId):Prop:=∀{d:Ac}{c:CD}{D:Eo}{dv cv:Value}{LC LD:List Ac}{k:Nat},Ca d c dv cv LC→Dv d D dv LD→KN c 4611686018427387904→k<D.syn.length→
 Aw P f [cv,.int .i64 k] d (LC++LD) (Ret fun r d' L'=>∃LC' LD',L'=LC'++LD'∧Ca d' (Eh (D.cur k) c k).1 dv cv LC'∧Dv d' D dv LD'∧AaU d' r (Eh (D.cur k) c k).2)
def Mp(a0 a1 a2 a3 a4:Nat):Gz:=(.mk 108 [(.tmp 4),(.tmp 5)] (.seq (.g (rG (o1 4 (.mv nS)<|o1 5 (.mv (kZ 0)) .done))) (.seq (.g (.block 0 (sR (om 13 0<|oc 14 a0 [(tP 13)]<|om 12 14 .done) (.cond (tP 12) (sR (o1 4 (.mv nS)<|o1 5 (.mv (kZ 1)) .done) .ret) (sR (om 16 1<|ob 17 .lss (tP 16) (kZ 0)<|om 18 17<|gF 19 18 1<|gF 20 18 0<|oF 21 18 (.nilc (tP 20))<|oF 22 18 (.fld 0 (tP 21))<|oF 23 18 (.ld none (tP 22))<|oF 24 18 (.call a1 [(tP 23)])<|oF 25 18 (.bin .geq (tP 19) (tP 24))<|o1 26 (.pick (tP 18) (.const (.bool true)) (tP 25))<|om 15 26 .done) (.cond (tP 15) (sR (o1 4 (.mv nS)<|o1 5 (.mv (kZ 4)) .done) .ret) .skip)))))) (.seq (.g (sR (om 28 0<|om 29 1<|oc 30 a2 [(tP 28),(tP 29)]<|om 27 30<|oe 31 27 0<|oe 32 27 1<|om 6 31<|om 7 32 .done) (sR (om 33 6<|o1 34 (.eqp true (tP 33) (.const (.pointer none))) .done) (.cond (tP 34) (sR (om 35 6<|o1 36 (.nilc (tP 35))<|oj 37 2 36<|ol 38 37<|ob 39 .add (tP 38) (kZ 1)<|o1 40 (.nilc (tP 35))<|oj 41 2 40<|o0 (.st 1 (tP 41) (tP 39)) .done) (sR (om 42 6<|o1 43 (.nilc (tP 42))<|oj 44 3 43<|o0 (.st 1 (tP 44) (.const (.bool true))) .done) (sR (om 45 0<|o1 46 (.nilc (tP 45))<|oj 47 4 46<|ol 48 47<|ob 49 .add (tP 48) (kZ 1)<|o1 50 (.nilc (tP 45))<|oj 51 4 50<|o0 (.st 1 (tP 51) (tP 49)) .done) (sR (o1 52 (.bsl 0 1 [(.int .u8 0)] [])<|om 53 6<|o1 54 (.nilc (tP 53))<|oj 55 4 54<|ol 56 55<|o1 57 (.app 1 1 [(.int .u8 0)] (tP 52) (tP 56))<|om 4 57<|o1 5 (.mv (kZ 0)) .done) .ret)))) .skip)))) (.seq (.g (rG (om 59 0<|oc 60 a3 [(tP 59)]<|om 58 60<|oe 61 58 0<|oe 62 58 1<|om 8 61<|om 9 62 .done))) (.seq (.g (sR (om 63 9<|o1 64 (.un .not (tP 63)) .done) (.cond (tP 64) (sR (o1 4 (.mv nS)<|o1 5 (.mv (kZ 180)) .done) .ret) .skip))) (.seq (.g (rG (om 66 0<|o1 67 (.nilc (tP 66))<|oj 68 0 67<|ol 69 68<|om 70 1<|oc 71 a4 [(tP 69),(tP 70)]<|om 65 71<|oe 72 65 0<|oe 73 65 1<|om 10 72<|om 11 73 .done))) (.seq (.seq (.g (rG (om 74 11<|ob 75 .neq (tP 74) (kZ 0) .done))) (.cond (tP 75) (.seq (.g (rG (om 76 0<|o1 77 (.nilc (tP 76))<|oj 78 1 77<|ol 79 78<|om 80 8<|o1 81 (.bld [(0,1),(1,1),(2,1),(3,1),(4,1)] [(.bool false),(.int .i64 0),(.int .i64 0),(.bool false),(.slice none 0 0)] [])<|oI 82 5 79 80<|o0 (.st 5 (tP 82) (tP 81)) .done))) (.seq (.snd (om 83 0<|o1 84 (.nilc (tP 83))<|oj 85 2 84<|ol 86 85<|om 87 8 .done) none (tP 86) (tP 87) .done) (.g (sR (om 88 11<|o1 4 (.mv nS)<|om 5 88 .done) .ret)))) (.g .skip))) (.g (sR (om 89 0<|o1 90 (.nilc (tP 89))<|oj 91 1 90<|ol 92 91<|om 93 8<|om 94 1<|om 95 10<|o1 96 (.bld [(0,1),(1,1),(2,1),(3,1),(4,1)] [(.bool false),(.int .i64 0),(.int .i64 0),(.bool false),(.slice none 0 0)] [(0,(.const (.bool true))),(1,(tP 94)),(2,(kZ 1)),(3,(.const (.bool true))),(4,(tP 95))])<|oI 97 5 92 93<|o0 (.st 5 (tP 97) (tP 96)) .done) (sR (om 98 0<|o1 99 (.nilc (tP 98))<|oj 100 5 99<|ol 101 100<|ob 102 .add (tP 101) (kZ 1)<|o1 103 (.nilc (tP 98))<|oj 104 5 103<|o0 (.st 1 (tP 104) (tP 102)) .done) (sR (o1 105 (.bsl 0 1 [(.int .u8 0)] [])<|om 106 10<|o1 107 (.app 1 1 [(.int .u8 0)] (tP 105) (tP 106))<|om 4 107<|o1 5 (.mv (kZ 0)) .done) .ret))))))))))))
set_option maxHeartbeats 1000000 in
theorem Z8{P:Program}{f f1 f2 f3 f4 f5:FuncId} (hd:Fb false false P f=some (Mp f1 f2 f3 f4 f5)) (h1:HF P f1) (h2:Hz P f2) (h3:Je P f3) (h4:OZ P f4) (h5:Pf P f5):Kq P f:=by
 intro d c D dv cv LC LD k h hD hpb hk
 have h0:=h
 obtain⟨b,T,bf,cp,cb,hf,s,r,bd,rfl,rfl,rfl,hg,hl1,hl2,hh,hfr⟩:=h
 refine Eu hd (Aca rfl) ?_
 show xwp P _ _ _ _ _
 (apply BI;apply x_g;apply AA;apply Am;rfl;apply Ab;rfl;apply Aa;apply BI;apply x_g;apply Az;apply Ah;apply AA;apply Al;rfl)
 refine CK (A:=[_]) (B:=_::_::LD) rfl rfl h1 ?_
 (refine Ae rfl<|Aa<|AS rfl<|Ad<|Ab rfl<|AE rfl rfl<|Ae rfl<|Bc rfl (by omega)<|Af rfl<|Ab rfl<|Af rfl<|Al rfl<|Af rfl<|Au rfl<|Af rfl<|Ai rfl<|Af rfl<|Ag rfl (Aj 0 rfl rfl)<|Af rfl ?_)
 refine LS (A:=LD) Ack rfl (h2 hD) ?_
 (refine Af rfl<|DG rfl rfl<|As rfl rfl<|Ae rfl<|Aa<|Ar rfl (by omega)<|Ak ?_;apply BI;apply x_g;refine Ad<|Al rfl<|Ab rfl ?_)
 refine CK (A:=[_,_]) (B:=_::LD) rfl rfl (h3 hg) ?_
 cases hF:findF k c.fr with
 |some i=>
  obtain⟨hi,hheld,hsec⟩:=EZ hF
  obtain⟨b1,T1,l1,c1,cs,q1,rfl,hcl,hcs,hle,⟨a,n,c',rfl,hb⟩,hset⟩:=Aq.at (by omega) hg hi
  cases q1
  have hpi:=hpb _ (Ada hi)
  have c2:=hcs 2 _ rfl
  have hgd:c.fr.getD i fz=c.fr[i]:=Ig hi
  have hres:Eh (D.cur k) c k=({c with fr:=c.fr.set i {c.fr[i] with pins:=c.fr[i].pins+1,late:=true},hits:=c.hits+1},some c.fr[i].b):=by
   unfold Eh;rw [hF];simp only [hgd]
  rw [hres]
  (refine AU rfl<|Ao rfl rfl<|Ao rfl rfl<|Al rfl<|Ab rfl<|Aa<|Ad<|Al rfl<|C7 rfl rfl<|Aa<|Bh rfl<|Ad<|Al rfl<|Au rfl<|Ai rfl<|Ag rfl (Aj 1 rfl (by assumption))<|AO rfl rfl (by omega) (by omega)<|Au rfl<|Ai rfl ?_)
  refine AZ 1 (patch l1 (i*5) [.bool c.fr[i].held,.int .i64 c.fr[i].sec,.int .i64 ((c.fr[i].pins:Int)+1),.bool c.fr[i].late,.slice a n c']) rfl rfl rfl rfl (by omega) rfl (Hm hcs (by simp) (by simp;omega)) ?_
  (refine Aa<|Ad<|Al rfl<|Au rfl<|Ai rfl ?_)
  refine AZ 1 (patch l1 (i*5) [.bool c.fr[i].held,.int .i64 c.fr[i].sec,.int .i64 ((c.fr[i].pins:Int)+1),.bool true,.slice a n c']) rfl rfl rfl rfl (by rw [Bt (by simp;omega)];omega) rfl (Va (cs:=[.bool c.fr[i].held,.int .i64 c.fr[i].sec,.int .i64 ((c.fr[i].pins:Int)+1),.bool c.fr[i].late,.slice a n c']) (by simp) (by simp;omega)) ?_
  (refine Aa<|Ad<|Al rfl<|Au rfl<|Ai rfl<|Ag rfl (Aj 0 rfl rfl) ?_)
  refine Kx rfl rfl ?_
  (refine Au rfl<|Ai rfl ?_)
  refine AZ 0 [.pointer (some ⟨bd,0,none⟩),.slice (some ⟨bf,0,none⟩) c.fr.length cp,.chan (some cb),.int .i64 c.hand,.int .i64 (wr (c.hits+1)),.int .i64 (wr c.miss)] rfl rfl rfl rfl (Aca rfl) rfl rfl ?_
  have c4:(patch l1 (i*5) [.bool c.fr[i].held,.int .i64 c.fr[i].sec,.int .i64 ((c.fr[i].pins:Int)+1),.bool true,.slice a n c'])[i*5+4]?=some (.slice a n c'):=RK (by simp;omega) rfl
  (refine Aa<|Ad ?_)
  refine Dn (cs:=[]) (by simp) (by simp [Instr.fill,Bp]) (fun b3 T3=>?_)
  (refine AL<|Au rfl<|Ai rfl ?_)
  refine Ag rfl (Aj 2 rfl c4) ?_
  have hbl:=hb.BZ
  refine ER (R:=AM) 0 rfl rfl (Aq.Km (R:=AM) (sz:=1)) rfl (RSl.src hb Gj (by omega) _) (by omega) (by simp;omega) (by simp;omega) (fun v' h' ho'=>?_)
  rw [Adr] at ho'
  (refine AL<|Ab rfl<|Aa<|An ?_)
  have hg2:=hset [.bool c.fr[i].held,.int .i64 c.fr[i].sec,.int .i64 ((c.fr[i].pins:Int)+1),.bool true,.slice a n c'] {c.fr[i] with pins:=c.fr[i].pins+1,late:=true} rfl ⟨a,n,c',rfl,hb⟩
  refine Ba [v',.int .i64 0] ⟨rfl,rfl,trivial⟩ (d':=join d h') (L':=[bx b T [.pointer (some ⟨bd,0,none⟩),.slice (some ⟨bf,0,none⟩) c.fr.length cp,.chan (some cb),.int .i64 c.hand,.int .i64 (wr (c.hits+1)),.int .i64 (wr c.miss)],
   bx bf T1 (patch l1 (i*5) [.bool c.fr[i].held,.int .i64 c.fr[i].sec,.int .i64 ((c.fr[i].pins:Int)+1),.bool true,.slice a n c']),sg cb (.chan c.fr.length (c.free.map fun i:Nat=>Value.int .i64 i).toArray false s r false)]++LD) Vs.freeze
   ⟨_,_,rfl,?_,hD.mono (Le.AH _ _),v',rfl,Aq.rsl (R:=AM) ho' AW (by omega) (Le.AH _ _) (Le.A6 _ _)⟩
  exact Ca.mk (by simp) (Aq.mono (R:=RFr) LO hg2 (Le.AH _ _)) hl1 hl2 hh hfr
 |none=>
  (refine AU rfl<|Ao rfl rfl<|Ao rfl rfl<|Al rfl<|Ab rfl<|Aa<|Ad<|Al rfl<|Sf rfl rfl<|Aa<|AS rfl<|Ak ?_;apply BI;apply x_g;refine AA<|Al rfl ?_)
  refine Dx (A:=[_,_,_]) (B:=LD) rfl rfl (h4 h0 hpb) (fun u d' L' _ ⟨e1,e2,e3⟩=>?_)
  subst e1
  subst e2
  cases hr:EJ c with
  |mk c1 o=>
  rw [hr] at e3
  simp only at e3
  have e3':=e3
  obtain⟨b',T',bf',cp',cb',hf',s',r',bd',q1,q2,rfl,hg',hl1',hl2',hh',hfr'⟩:=e3
  cases q1;cases q2
  cases o with
  |none=>
   have hres:Eh (D.cur k) c k=(c1,none):=by unfold Eh;rw [hF,hr]
   rw [hres]
   (refine AU rfl<|Ao rfl rfl<|Ao rfl rfl<|Ab rfl<|Ae rfl<|Aa ?_;apply BI;apply x_g;refine Ad<|Ae rfl<|Bu rfl<|Aa<|Bh rfl<|Ad<|Am rfl<|Ab rfl<|Aa<|An ?_)
   exact CF rfl rfl (Acb _) ⟨_,_,rfl,e3',hD,rfl⟩
  |some i=>
   have hres:Eh (D.cur k) c k=({c1 with fr:=c1.fr.set i ⟨true,k,1,true,D.cur k⟩,miss:=c1.miss+1},some (D.cur k)):=by unfold Eh;rw [hF,hr]
   rw [hres]
   have hi:=TO hh hfr hr
   (refine AU rfl<|Ao rfl rfl<|Ao rfl rfl<|Ab rfl<|Ae rfl<|Aa ?_;apply BI;apply x_g;refine Ad<|Ae rfl<|Bu rfl<|Aa<|AS rfl<|Ak ?_;apply BI;apply x_g;refine AA<|Al rfl<|Au rfl<|Ai rfl<|Ag rfl (Aj 0 rfl rfl)<|Ab rfl ?_)
   refine OL (A:=LD) Ack rfl (h5 hD hk) (fun w d2 LD' hld ⟨u,e1,hu,hD'⟩=>⟨d2,[_,_,_]++LD',Vs.perm Ack,?_⟩)
   subst e1
   obtain⟨au,cu,rfl⟩:=RSl.val hu
   obtain⟨b1,T1,l1,x1,cs,q1,rfl,hcl,hcs,hle, -,hset⟩:=Aq.at (by omega) (Aq.mono (R:=RFr) LO hg' hld) hi
   cases q1
   (refine AU rfl<|Ao rfl rfl<|Ao rfl rfl<|Am rfl<|Ab rfl<|Aa ?_;apply BI;apply BI;apply x_g;refine AA<|Ab rfl<|AQ rfl rfl<|Aa ?_;apply YD;rfl;apply x_g;apply Ak;apply x_g;refine Ad<|Al rfl<|Au rfl<|Ai rfl<|Ag rfl (Aj 0 rfl rfl)<|Ab rfl<|Ab rfl<|Am rfl<|BJ rfl<|Bx _ rfl rfl rfl (by omega) ?_)
   refine Bo (cs:=[.bool true,.int .i64 k,.int .i64 1,.bool true,.slice au (D.cur k).length cu]) 1 rfl rfl rfl rfl hle rfl ?_
   (refine Aa<|Ad<|Al rfl<|Au rfl<|Ai rfl<|Ag rfl (Aj 0 rfl rfl) ?_)
   refine Kx rfl rfl ?_
   (refine Au rfl<|Ai rfl ?_)
   refine AZ 0 [.pointer (some ⟨bd,0,none⟩),.slice (some ⟨bf',0,none⟩) c1.fr.length cp',.chan (some cb'),.int .i64 c1.hand,.int .i64 (wr c1.hits),.int .i64 (wr (c1.miss+1))] rfl rfl rfl rfl (Aca rfl) rfl rfl ?_
   (refine Aa<|Ad ?_)
   refine Dn (cs:=[]) (by simp) (by simp [Instr.fill,Bp]) (fun b3 T3=>?_)
   (apply AL)
   have hbl:=hu.BZ
   refine ER (R:=AM) 0 rfl rfl (Aq.Km (R:=AM) (sz:=1)) rfl (RSl.src hu Gj (by omega) _) (by omega) (by simp;omega) (by simp;omega) (fun v' h' ho'=>?_)
   rw [Adr] at ho'
   (refine AL<|Ab rfl<|Aa<|An ?_)
   refine Ba [v',.int .i64 0] ⟨rfl,rfl,trivial⟩ (d':=join d2 h') (L':=[bx b T' [.pointer (some ⟨bd,0,none⟩),.slice (some ⟨bf',0,none⟩) c1.fr.length cp',.chan (some cb'),.int .i64 c1.hand,.int .i64 (wr c1.hits),.int .i64 (wr (c1.miss+1))],
    bx bf' T1 (patch l1 (i*5) [.bool true,.int .i64 k,.int .i64 1,.bool true,.slice au (D.cur k).length cu]),sg cb' (.chan c1.fr.length (c1.free.map fun i:Nat=>Value.int .i64 i).toArray false s' r' false)]++LD') Vs.freeze
    ⟨_,_,rfl,?_,hD'.mono (Le.AH _ _),v',rfl,Aq.rsl (R:=AM) ho' AW (by omega) (Le.AH _ _) (Le.A6 _ _)⟩
   exact Ca.mk (by simp) (Aq.mono (R:=RFr) LO (hset _ ⟨true,k,1,true,D.cur k⟩ rfl ⟨au,_,cu,rfl,hu⟩) (Le.AH _ _)) hl1' hl2' hh' hfr'
def HX(P:Program) (f:FuncId):Prop:=∀{d:Ac}{c:CD}{dv cv:Value}{L:List Ac}{k:Nat},Ca d c dv cv L→KN c 4611686018427387904→
 Aw P f [cv,.int .i64 k] d L (Ret fun r d' L'=>d'=d∧r=.int .i64 (CZ c k).2∧Ca d (CZ c k).1 dv cv L')
def J7(a0 a1:Nat):AY:=⟨31,[(.tmp 4)],(sR (o1 4 (.mv (kZ 0)) .done) (.seq (sR (om 7 0<|oc 8 a0 [(tP 7)] .done) (.cond (tP 8) (sR (o1 4 (.mv (kZ 1)) .done) .ret) .skip)) (sR (om 10 0<|om 11 1<|oc 12 a1 [(tP 10),(tP 11)]<|om 9 12<|oe 13 9 0<|oe 14 9 1<|om 5 13<|om 6 14 .done) (.seq (.block 0 (sR (om 16 5<|o1 17 (.eqp false (tP 16) (.const (.pointer none)))<|om 15 17 .done) (.cond (tP 15) (sR (o1 4 (.mv (kZ 240)) .done) .ret) (sR (om 19 5<|o1 20 (.nilc (tP 19))<|oj 21 2 20<|ol 22 21<|ob 23 .eql (tP 22) (kZ 0)<|om 18 23 .done) (.cond (tP 18) (sR (o1 4 (.mv (kZ 180)) .done) .ret) .skip))))) (sR (om 24 5<|o1 25 (.nilc (tP 24))<|oj 26 2 25<|ol 27 26<|ob 28 .sub (tP 27) (kZ 1)<|o1 29 (.nilc (tP 24))<|oj 30 2 29<|o0 (.st 1 (tP 30) (tP 28)) .done) (sR (o1 4 (.mv (kZ 0)) .done) .ret))))))⟩
theorem VK{P:Program}{f f1 f2:FuncId} (hd:dec P f=some (J7 f1 f2)) (h1:HF P f1) (h2:Je P f2):HX P f:=by
 intro d c dv cv L k h hpb
 have h0:=h
 obtain⟨b,T,bf,cp,cb,hf,s,r,bd,rfl,rfl,rfl,hg,hl1,hl2,hh,hfr⟩:=h
 refine AG hd (Aca rfl) ?_
 show gwp P _ _ _ _ _
 (refine Ad<|Ab rfl<|Aa<|Ah<|Ad<|Al rfl ?_)
 refine CK (A:=[_]) (B:=[_,_]) rfl rfl h1 ?_
 (refine Aa<|AS rfl<|Ak<|Ad<|Al rfl<|Ab rfl ?_)
 refine CK (A:=[_,_]) (B:=[_]) rfl rfl (h2 hg) ?_
 cases hF:findF k c.fr with
 |none=>
  (refine AU rfl<|Ao rfl rfl<|Ao rfl rfl<|Al rfl<|Ab rfl<|Aa<|Ah<|Az<|Ad<|Al rfl<|Sf rfl rfl<|Ae rfl<|Aa<|Bh rfl<|Ad<|Ab rfl<|Aa<|An ?_)
  have hr:CZ c k=(c,240):=by unfold CZ;rw [hF]
  rw [hr]
  exact BE rfl (Acb _) ⟨rfl,rfl,h0⟩
 |some i=>
  obtain⟨hi,hheld,hsec⟩:=EZ hF
  obtain⟨b1,T1,l1,c1,cs,q1,rfl,hcl,hcs,hle,⟨a,n,c',rfl,hb⟩,hset⟩:=Aq.at (by omega) hg hi
  cases q1
  have hpi:=hpb _ (Ada hi)
  have c2:=hcs 2 _ rfl
  have hgd:c.fr.getD i fz=c.fr[i]:=Ig hi
  by_cases hp:c.fr[i].pins=0
  ·(refine AU rfl<|Ao rfl rfl<|Ao rfl rfl<|Al rfl<|Ab rfl<|Aa<|Ah<|Az<|Ad<|Al rfl<|C7 rfl rfl<|Ae rfl<|Aa<|AS rfl<|Ad<|Al rfl<|Au rfl<|Ai rfl<|Ag rfl (Aj 1 rfl (by assumption))<|AJ rfl rfl<|Ae rfl<|Aa<|Ax rfl (by omega)<|Ad<|Ab rfl<|Aa<|An ?_)
   have hr:CZ c k=(c,180):=by unfold CZ;rw [hF];simp only [hgd];rw [if_pos hp]
   rw [hr]
   exact BE rfl (Acb _) ⟨rfl,rfl,h0⟩
  ·(refine AU rfl<|Ao rfl rfl<|Ao rfl rfl<|Al rfl<|Ab rfl<|Aa<|Ah<|Az<|Ad<|Al rfl<|C7 rfl rfl<|Ae rfl<|Aa<|AS rfl<|Ad<|Al rfl<|Au rfl<|Ai rfl<|Ag rfl (Aj 1 rfl (by assumption))<|AJ rfl rfl<|Ae rfl<|Aa<|Ar rfl (by omega)<|Ak<|Ad<|Al rfl<|Au rfl<|Ai rfl<|Ag rfl (Aj 1 rfl (by assumption))<|CX rfl rfl (by omega) (by omega)<|Au rfl<|Ai rfl ?_)
   refine AZ 1 (patch l1 (i*5) [.bool c.fr[i].held,.int .i64 c.fr[i].sec,.int .i64 ((c.fr[i].pins:Int) - 1),.bool c.fr[i].late,.slice a n c']) rfl rfl rfl rfl (by omega) rfl (Hm hcs (by simp) (by simp;omega)) ?_
   (refine Aa<|Ad<|Ab rfl<|Aa<|An ?_)
   have hr:CZ c k=({c with fr:=c.fr.set i {c.fr[i] with pins:=c.fr[i].pins - 1}},0):=by unfold CZ;rw [hF];simp only [hgd];rw [if_neg hp]
   rw [hr]
   refine BE rfl (Acb _) ⟨rfl,rfl,?_⟩
   exact Ca.mk (by simp) (hset _ {c.fr[i] with pins:=c.fr[i].pins - 1} rfl ⟨a,n,c',by simp only;rw [Int.ofNat_sub (by omega)];rfl,hb⟩) hl1 hl2 hh hfr
def G0(P:Program) (f:FuncId):Prop:=∀{d:Ac}{c:CD}{dv cv:Value}{L:List Ac}{k:Nat},Ca d c dv cv L→(∀i,findF k c.fr=some i→c.free.length<c.fr.length)→
 Aw P f [cv,.int .i64 k] d L (Ret fun r d' L'=>d'=d∧r=.int .i64 (CW c k).2∧Ca d (CW c k).1 dv cv L')
def Jp(a0 a1:Nat):Gz:=(.mk 32 [(.tmp 4)] (.seq (.g (rG (o1 4 (.mv (kZ 0)) .done))) (.seq (.g (sR (om 7 0<|oc 8 a0 [(tP 7)] .done) (.cond (tP 8) (sR (o1 4 (.mv (kZ 1)) .done) .ret) .skip))) (.seq (.g (rG (om 10 0<|om 11 1<|oc 12 a1 [(tP 10),(tP 11)]<|om 9 12<|oe 13 9 0<|oe 14 9 1<|om 5 13<|om 6 14 .done))) (.seq (.g (.block 0 (sR (om 16 5<|o1 17 (.eqp false (tP 16) (.const (.pointer none)))<|om 15 17 .done) (.cond (tP 15) (sR (o1 4 (.mv (kZ 240)) .done) .ret) (sR (om 19 5<|o1 20 (.nilc (tP 19))<|oj 21 2 20<|ol 22 21<|ob 23 .gtr (tP 22) (kZ 0)<|om 18 23 .done) (.cond (tP 18) (sR (o1 4 (.mv (kZ 180)) .done) .ret) .skip)))))) (.seq (.g (rG (om 24 5<|o1 25 (.bld [(0,1),(1,1),(2,1),(3,1),(4,1)] [(.bool false),(.int .i64 0),(.int .i64 0),(.bool false),(.slice none 0 0)] [])<|o1 26 (.nilc (tP 24))<|o0 (.st 5 (tP 26) (tP 25)) .done))) (.seq (.snd (om 27 0<|o1 28 (.nilc (tP 27))<|oj 29 2 28<|ol 30 29<|om 31 6 .done) none (tP 30) (tP 31) .done) (.g (sR (o1 4 (.mv (kZ 0)) .done) .ret)))))))))
theorem UE{P:Program}{f f1 f2:FuncId} (hd:Fb false false P f=some (Jp f1 f2)) (h1:HF P f1) (h2:Je P f2):G0 P f:=by
 intro d c dv cv L k h hroom
 have h0:=h
 obtain⟨b,T,bf,cp,cb,hf,s,r,bd,rfl,rfl,rfl,hg,hl1,hl2,hh,hfr⟩:=h
 refine Eu hd (Aca rfl) ?_
 show xwp P _ _ _ _ _
 (apply BI;apply x_g;apply AA;apply Ab;rfl;apply Aa;apply BI;apply x_g;apply Ah;apply AA;apply Al;rfl)
 refine CK (A:=[_]) (B:=[_,_]) rfl rfl h1 ?_
 (refine Aa<|AS rfl<|Ak ?_;apply BI;apply x_g;refine AA<|Al rfl<|Ab rfl ?_)
 refine CK (A:=[_,_]) (B:=[_]) rfl rfl (h2 hg) ?_
 cases hF:findF k c.fr with
 |none=>
  (refine AU rfl<|Ao rfl rfl<|Ao rfl rfl<|Al rfl<|Ab rfl<|Aa ?_;apply BI;apply x_g;refine Az<|Ad<|Al rfl<|Sf rfl rfl<|Ae rfl<|Aa<|Bh rfl<|Ad<|Ab rfl<|Aa<|An ?_)
  have hr:CW c k=(c,240):=by unfold CW;rw [hF]
  rw [hr]
  exact BE rfl (Acb _) ⟨rfl,rfl,h0⟩
 |some i=>
  obtain⟨hi,hheld,hsec⟩:=EZ hF
  have hroom:=hroom i hF
  obtain⟨b1,T1,l1,c1,cs,q1,rfl,hcl,hcs,hle,⟨a,n,c',rfl,hb⟩,hset⟩:=Aq.at (by omega) hg hi
  cases q1
  have c2:=hcs 2 _ rfl
  have hgd:c.fr.getD i fz=c.fr[i]:=Ig hi
  by_cases hp:c.fr[i].pins=0
  ·(refine AU rfl<|Ao rfl rfl<|Ao rfl rfl<|Al rfl<|Ab rfl<|Aa ?_;apply BI;apply x_g;refine Az<|Ad<|Al rfl<|C7 rfl rfl<|Ae rfl<|Aa<|AS rfl<|Ad<|Al rfl<|Au rfl<|Ai rfl<|Ag rfl (Aj 1 rfl (by assumption))<|BQ rfl rfl<|Ae rfl<|Aa<|Ar rfl (by omega)<|Ak ?_;apply BI;apply x_g;refine AA<|Al rfl<|BJ rfl<|Au rfl ?_)
   have hr:CW c k=({c with fr:=c.fr.set i fz,free:=c.free++[i]},0):=by unfold CW;rw [hF];simp only [hgd];rw [if_neg (by omega)]
   rw [hr]
   refine Bo (cs:=[.bool false,.int .i64 0,.int .i64 0,.bool false,.slice none 0 0]) 1 rfl rfl rfl rfl hle rfl ?_
   (apply Aa;apply BI;apply YR;refine Al rfl<|Au rfl<|Ai rfl<|Ag rfl (Aj 0 rfl rfl)<|Ab rfl<|Aa ?_)
   refine Vo (cap:=c.fr.length) (buf:=c.free.map fun i:Nat=>Value.int .i64 i) (v:=.int .i64 i) 2 rfl rfl (by rw [Adw];exact hroom) rfl ?_
   (apply Aa;apply x_g;refine Ad<|Ab rfl<|Aa<|An ?_)
   refine BE rfl (Acb _) ⟨rfl,rfl,?_⟩
   have:=Ca.mk (c:={c with fr:=c.fr.set i fz,free:=c.free++[i]}) (d:=d) (b:=b) (T:=T) (cb:=cb) (s:=s+1) (r:=r) (bd:=bd) (by simp) (hset _ fz rfl ⟨none,0,0,rfl,RSl.nil⟩) hl1 hl2 hh (fun j hj=>by
    rcases Acj.1 hj with hj|hj
    ·exact hfr j hj
    ·rw [Acv.1 hj];exact hi)
   simp only [Afk,Afj,List.map_nil] at this
   exact this
  ·(refine AU rfl<|Ao rfl rfl<|Ao rfl rfl<|Al rfl<|Ab rfl<|Aa ?_;apply BI;apply x_g;refine Az<|Ad<|Al rfl<|C7 rfl rfl<|Ae rfl<|Aa<|AS rfl<|Ad<|Al rfl<|Au rfl<|Ai rfl<|Ag rfl (Aj 1 rfl (by assumption))<|BQ rfl rfl<|Ae rfl<|Aa<|Ax rfl (by omega)<|Ad<|Ab rfl<|Aa<|An ?_)
   have hr:CW c k=(c,180):=by unfold CW;rw [hF];simp only [hgd];rw [if_pos (by omega)]
   rw [hr]
   exact BE rfl (Acb _) ⟨rfl,rfl,h0⟩
def IY(P:Program) (f:FuncId):Prop:=∀{d:Ac}{c:CD}{dv cv:Value}{L:List Ac},Ca d c dv cv L→(∀f∈c.fr,f.sec≤8192)→
 Aw P f [cv] d L (Ret fun r d' L'=>L'=L∧Dt d' r (DW c))
def Lj(a0:Nat):AY:=⟨29,[(.tmp 2)],(sR (o1 2 (.mv nS) .done) (.seq (sR (om 6 0<|oc 7 a0 [(tP 6)] .done) (.cond (tP 7) (sR (o1 2 (.mv nS) .done) .ret) .skip)) (sR (o1 3 (.mv nS) .done) (.seq (sR (om 8 0<|o1 9 (.nilc (tP 8))<|oj 10 1 9<|ol 11 10<|oL 12 11<|o1 13 (.mv (kZ 0)) .done) (.block 0 (.loop (sR (ob 14 .lss (tP 13) (tP 12) .done) (.seq (.cond (tP 14) .skip (.exit 0)) (.seq (.block 1 (sR (oI 15 5 11 13<|o1 16 (.ld (some 5) (tP 15))<|o1 5 (.alo (.agg #[(.bool false),(.int .i64 0),(.int .i64 0),(.bool false),(.slice none 0 0)]))<|o0 (.st 5 (tP 5) (tP 16)) .done) (sR (oj 17 0 5<|ol 18 17 .done) (.cond (tP 18) (rG (om 19 3<|oj 20 1 5<|ol 21 20<|o1 22 (.bsl 1 1 [(.int .i64 0)] [(0,(tP 21))])<|o1 23 (.app 1 8 [(.int .i64 0)] (tP 19) (tP 22))<|om 3 23 .done)) (rG (om 24 3<|o1 25 (.bsl 1 1 [(.int .i64 0)] [(0,(kZ (-1)))])<|o1 26 (.app 1 8 [(.int .i64 0)] (tP 24) (tP 25))<|om 3 26 .done)))))) (rG (ob 27 .add (tP 13) (kZ 1)<|om 13 27 .done)))))))) (sR (om 28 3<|om 2 28 .done) .ret)))))⟩
theorem Yx{P:Program}{f f1:FuncId} (hd:dec P f=some (Lj f1)) (h1:HF P f1):IY P f:=by
 intro d c dv cv L h hsec
 obtain⟨b,T,bf,cp,cb,hf,s,r,bd,rfl,rfl,rfl,hg,hl1,hl2,hh,hfr⟩:=h
 refine AG hd (Aca rfl) ?_
 show gwp P _ _ _ _ _
 (refine Ad<|Am rfl<|Aa<|Ah<|Ad<|Al rfl ?_)
 refine CK (A:=[_]) (B:=[_,_]) rfl rfl h1 ?_
 refine FF ⟨d,emp::[bx b T [.pointer (some ⟨bd,0,none⟩),.slice (some ⟨bf,0,none⟩) c.fr.length cp,.chan (some cb),.int .i64 c.hand,.int .i64 (wr c.hits),.int .i64 (wr c.miss)],hf,sg cb (.chan c.fr.length (c.free.map fun i:Nat=>Value.int .i64 i).toArray false s r false)],Vs.emp,?_⟩
 (refine AS rfl<|Ak<|Ad<|Am rfl<|Aa<|Ah<|Ad<|Al rfl<|Au rfl<|Ai rfl<|Ag rfl (Aj 1 rfl rfl)<|AN rfl<|Ab rfl<|Aa<|Az ?_)
 have hlen:(DW c).length=c.fr.length:=by simp [DW]
 refine CL (α:=Nat×Value×Ac) (fun x=>[(3,x.2.1),(11,.slice (some ⟨bf,0,none⟩) c.fr.length cp),(12,.int .i64 c.fr.length),(13,.int .i64 x.1)])
  (fun x d' L'=>d'=d∧x.1≤c.fr.length∧Aq 1 Bg d x.2.1 ((DW c).take x.1) x.2.2∧L'=x.2.2::[bx b T [.pointer (some ⟨bd,0,none⟩),.slice (some ⟨bf,0,none⟩) c.fr.length cp,.chan (some cb),.int .i64 c.hand,.int .i64 (wr c.hits),.int .i64 (wr c.miss)],hf,sg cb (.chan c.fr.length (c.free.map fun i:Nat=>Value.int .i64 i).toArray false s r false)])
  (fun x=>c.fr.length - x.1) (0,.slice none 0 0,emp) ⟨rfl,rfl,rfl,rfl,trivial⟩ ⟨rfl,by omega,Aq.nil,rfl⟩ ?_
 rintro⟨i,v,hv⟩ ρ d' L' ⟨rfl,hi,hrow,rfl⟩
 simp only at hi hrow⊢
 by_cases e:i<c.fr.length
 ·obtain⟨b1,T1,l1,c1,cs,q1,rfl,hcl,hcs,hle,⟨a,n,c',rfl,hb⟩,hset⟩:=Aq.at (by omega) hg e
  cases q1
  have hsi:=hsec _ (Ada e)
  have htl:((DW c).take i).length=i:=by rw [Acw];omega
  have hnext:(DW c).take (i+1)=(DW c).take i++[if c.fr[i].held then(c.fr[i].sec:Int) else -1]:=by
   rw [Acx (by omega)];simp [DW]
  (refine Ad<|AE rfl rfl<|Aa<|Ah<|Ax rfl (by omega)<|Ak<|Ah<|Az<|Ad<|Bx _ rfl rfl rfl (by omega) ?_)
  refine Jl _ 2 rfl rfl hcl hcs ?_
  (apply BX;intro _ _)
  refine Jr 0 rfl rfl rfl rfl rfl rfl ?_
  cases hh:c.fr[i].held with
  |true=>
   (refine Aa<|Ad<|Ai rfl<|Ag rfl (Aj 0 rfl rfl)<|Aa<|Bh rfl<|AA<|AL<|Ai rfl<|Ag rfl (Aj 0 rfl rfl) ?_)
   refine Ea rfl rfl (fun b3 T3=>?_)
   refine D9 (R:=Bg) 1 rfl rfl hrow rfl (Aq.Em (x:=(c.fr[i].sec:Int)) rfl ⟨rfl,by omega,by omega⟩) Dg (by omega) (by rw [htl];simp;omega) (by rw [htl];simp;omega) (fun v' h' ho'=>?_)
   refine Cd d' (h'::[_,_,_]) (Vs.drop (Acz _ _)) ?_
   (refine AL<|Aa<|AA<|AO rfl rfl (by omega) (by omega)<|Ab rfl<|Aa ?_)
   rw [hh] at hnext
   exact⟨(i+1,v',h'),by simp only;omega,⟨rfl,rfl,rfl,rfl,trivial⟩,rfl,e,by simp only [hnext];exact ho',rfl⟩
  |false=>
   (refine Aa<|Ad<|Ai rfl<|Ag rfl (Aj 0 rfl rfl)<|Aa<|AS rfl<|AA<|AL ?_)
   refine Ea rfl rfl (fun b3 T3=>?_)
   refine D9 (R:=Bg) 1 rfl rfl hrow rfl (Aq.Em (x:=(-1:Int)) rfl ⟨rfl,by omega,by omega⟩) Dg (by omega) (by rw [htl];simp;omega) (by rw [htl];simp;omega) (fun v' h' ho'=>?_)
   refine Cd d' (h'::[_,_,_]) (Vs.drop (Acz _ _)) ?_
   (refine AL<|Aa<|AA<|AO rfl rfl (by omega) (by omega)<|Ab rfl<|Aa ?_)
   rw [hh] at hnext
   exact⟨(i+1,v',h'),by simp only;omega,⟨rfl,rfl,rfl,rfl,trivial⟩,rfl,e,by simp only [hnext];exact ho',rfl⟩
 ·(refine Ad<|AE rfl rfl<|Aa<|Ah<|Ar rfl (by omega)<|Bj<|Ad<|AL<|AL<|Aa<|An ?_)
  rw [Aed (by omega)] at hrow
  exact Ba [v] ⟨rfl,trivial⟩ Vs.freeze ⟨rfl,Aq.rsl (R:=Bg) hrow B8 (by omega) (Le.AH _ _) (Le.A6 _ _)⟩
def Wt(P:Program) (f:FuncId):Prop:=∀{d:Ac}{c:CD}{dv cv:Value}{L:List Ac},Ca d c dv cv L→CS P f [cv] d L (.int .i64 (wr c.hits))
def RH(P:Program) (f:FuncId):Prop:=∀{d:Ac}{c:CD}{dv cv:Value}{L:List Ac},Ca d c dv cv L→CS P f [cv] d L (.int .i64 (wr c.miss))
def JV(P:Program) (f:FuncId):Prop:=∀{d:Ac}{D:Eo}{dv:Value}{LD:List Ac}{n:Nat},Dv d D dv LD→1≤D.syn.length→1≤n→n≤64→
 Aw P f [dv,.int .i64 n] d LD (Ret fun r d' L'=>d'=d∧∃cv LC,r=.tuple #[cv,.int .i64 0]∧L'=LC++LD∧Ca d ⟨Acr n fz,Ade n,0,0,0⟩ dv cv LC)
def SY(a0:Nat):Gz:=(.mk 37 [(.tmp 4),(.tmp 5)] (.seq (.g (rG (o1 4 (.mv (.const (.pointer none)))<|o1 5 (.mv (kZ 0)) .done))) (.seq (.g (.block 0 (sR (om 9 0<|oc 10 a0 [(tP 9)]<|ob 11 .eql (tP 10) (kZ 0)<|om 8 11 .done) (.cond (tP 8) (sR (o1 4 (.mv (.const (.pointer none)))<|o1 5 (.mv (kZ 1)) .done) .ret) (sR (om 13 1<|ob 14 .lss (tP 13) (kZ 1)<|om 15 14<|gF 16 15 1<|oF 17 15 (.bin .gtr (tP 16) (kZ 64))<|o1 18 (.pick (tP 15) (.const (.bool true)) (tP 17))<|om 12 18 .done) (.cond (tP 12) (sR (o1 4 (.mv (.const (.pointer none)))<|o1 5 (.mv (kZ 2)) .done) .ret) .skip)))))) (.seq (.g (.reg true (pm 19 0<|pm 20 1<|pm 22 1 (.alt ⟨(some 21),none,(.mks 5 56 [(.bool false),(.int .i64 0),(.int .i64 0),(.bool false),(.slice none 0 0)] (tP 20) (tP 20))⟩ (o1 23 (.mop (.mkc 8 (tP 22))) (p1 24 (.bld [(0,1),(1,1),(2,1),(3,1),(4,1),(5,1)] [(.pointer none),(.slice none 0 0),(.chan none),(.int .i64 0),(.int .i64 0),(.int .i64 0)] [(0,(tP 19)),(1,(tP 21)),(2,(tP 23))]) (o1 25 (.box (tP 24)) (.bar (pm 6 25 .done))))) (o1 23 (.mop (.mkc 8 (tP 22))) (o1 21 (.mks 5 56 [(.bool false),(.int .i64 0),(.int .i64 0),(.bool false),(.slice none 0 0)] (tP 20) (tP 20)) (p1 24 (.bld [(0,1),(1,1),(2,1),(3,1),(4,1),(5,1)] [(.pointer none),(.slice none 0 0),(.chan none),(.int .i64 0),(.int .i64 0),(.int .i64 0)] [(0,(tP 19)),(1,(tP 21)),(2,(tP 23))]) (o1 25 (.box (tP 24)) (.bar (pm 6 25 .done)))))))))) (.seq (.seq (.g (rG (om 26 1<|o1 27 (.mv (kZ 0)) .done))) (.block 1 (.loop (.seq (.g (rG (ob 28 .lss (tP 27) (tP 26) .done))) (.seq (.g (.cond (tP 28) .skip (.exit 1))) (.seq (.block 2 (.seq (.g (rG (om 29 27<|om 7 29 .done))) (.snd (om 30 6<|o1 31 (.nilc (tP 30))<|oj 32 2 31<|ol 33 32<|om 34 7 .done) none (tP 33) (tP 34) .done))) (.g (rG (ob 35 .add (tP 27) (kZ 1)<|om 27 35 .done))))))))) (.g (sR (om 36 6<|om 4 36<|o1 5 (.mv (kZ 0)) .done) .ret)))))))
theorem Z1{P:Program}{f f1:FuncId} (hd:Fb false false P f=some (SY f1)) (h1:Hz P f1):JV P f:=by
 intro d D dv LD n hD hs hn1 hn2
 have hD0:=hD
 obtain⟨bd, -, -, -, -, -, -,rfl, -⟩:=hD
 refine Eu hd (Aca rfl) ?_
 show xwp P _ _ _ _ _
 (apply BI;apply x_g;apply AA;apply Al;rfl;apply Ab;rfl;apply Aa;apply BI;apply x_g;apply Az;apply Ah;apply AA;apply Al;rfl)
 refine LS (A:=LD) (B:=[]) (by rw [Ads]) rfl (h1 hD0) ?_
 (refine AJ rfl rfl<|Ae rfl<|Aa<|Ar rfl (by omega)<|Ad<|Ab rfl<|AE rfl rfl<|Ae rfl<|Bc rfl (by omega)<|Af rfl<|Ab rfl<|Af rfl<|BQ rfl rfl<|As rfl rfl<|Ae rfl<|Aa<|Ar rfl (by omega)<|Ak ?_;apply BI;apply x_g)
 refine Abc (fun ρ d' L'=>d'=d∧∃b T bf Tf cb,BD ρ [(1,.int .i64 n),(6,.pointer (some ⟨b,0,none⟩))]∧
  L'=[bx b T [.pointer (some ⟨bd,0,none⟩),.slice (some ⟨bf,0,none⟩) n n,.chan (some cb),.int .i64 0,.int .i64 0,.int .i64 0],bx bf Tf (Bp [.bool false,.int .i64 0,.int .i64 0,.bool false,.slice none 0 0] (n*5)),sg cb (.chan n #[] false 0 0 false)]++LD) ?_ ?_
 ·refine Bv [] _ rfl ?_
  (refine Al rfl<|Ab rfl<|Ab rfl ?_)
  refine Es ?_ ?_
  ·refine Hn rfl rfl (Ach n) (by omega) (by omega) (fun bf Tf=>?_)
   refine YG rfl (by omega) (by omega) (fun cb=>?_)
   refine BJ (cs:=[.pointer (some ⟨bd,0,none⟩),.slice (some ⟨bf,0,none⟩) n n,.chan (some cb),.int .i64 0,.int .i64 0,.int .i64 0]) rfl ?_
   refine Cr rfl (fun b T=>?_)
   (refine B5<|Al rfl ?_)
   exact FF ⟨d,_::_::_::LD,Vs.perm ((Adc _ _ LD).cons _),rfl,b,T,bf,Tf,cb,⟨rfl,rfl,trivial⟩,rfl⟩
  ·refine YG rfl (by omega) (by omega) (fun cb=>?_)
   refine Hn rfl rfl (Ach n) (by omega) (by omega) (fun bf Tf=>?_)
   refine BJ (cs:=[.pointer (some ⟨bd,0,none⟩),.slice (some ⟨bf,0,none⟩) n n,.chan (some cb),.int .i64 0,.int .i64 0,.int .i64 0]) rfl ?_
   refine Cr rfl (fun b T=>?_)
   (refine B5<|Al rfl ?_)
   exact FF ⟨d,[_,_,_]++LD,Vs.refl _ _,rfl,b,T,bf,Tf,cb,⟨rfl,rfl,trivial⟩,rfl⟩
 ·rintro ρ d' L' ⟨rfl,b,T,bf,Tf,cb,hsl,rfl⟩
  refine Ph _ hsl ?_
  (apply BI;apply BI;apply x_g;apply AA;apply Ab;rfl;apply Ab;rfl;apply Aa;apply Gc)
  refine O4 (α:=Nat) (fun i=>[(6,.pointer (some ⟨b,0,none⟩)),(26,.int .i64 n),(27,.int .i64 i)])
   (fun i d2 L'=>d2=d'∧i≤n∧L'=[bx b T [.pointer (some ⟨bd,0,none⟩),.slice (some ⟨bf,0,none⟩) n n,.chan (some cb),.int .i64 0,.int .i64 0,.int .i64 0],bx bf Tf (Bp [.bool false,.int .i64 0,.int .i64 0,.bool false,.slice none 0 0] (n*5)),sg cb (.chan n ((Ade i).map fun i:Nat=>Value.int .i64 i).toArray false i 0 false)]++LD)
   (fun i=>n - i) 0 ⟨rfl,rfl,rfl,trivial⟩ ⟨rfl,by omega,rfl⟩ ?_
  rintro i ρ d2 L2 ⟨rfl,hi,rfl⟩
  by_cases e:i<n
  ·(apply BI;apply x_g;apply AA;apply AE;rfl;rfl;apply Aa;apply BI;apply x_g;refine Ax rfl (by omega) ?_;apply Ak;apply BI;apply Gc;apply BI;apply x_g;apply AA;apply Ab;rfl;apply Ab;rfl;apply Aa;apply YR;apply Al;rfl;apply Au;rfl;apply Ai;rfl;apply Ag;rfl;exact Aj 0 rfl rfl;apply Ab;rfl;apply Aa)
   refine Vo (cap:=n) (buf:=(Ade i).map fun i:Nat=>Value.int .i64 i) (v:=.int .i64 i) 2 rfl rfl (by simpa using e) rfl ?_
   (apply Aa;apply x_g;refine AA<|AO rfl rfl (by omega) (by omega)<|Ab rfl<|Aa ?_)
   refine⟨i+1,by omega,⟨rfl,rfl,rfl,trivial⟩,rfl,e,?_⟩
   rw [List.range_succ,Afk]
   rfl
  ·(apply BI;apply x_g;apply AA;apply AE;rfl;rfl;apply Aa;apply BI;apply x_g;refine Ar rfl (by omega) ?_;apply Bj;apply x_g;apply Ah;apply AA;apply Al;rfl;apply Al;rfl;apply Ab;rfl;apply Aa;apply An)
   have ei:i=n:=by omega
   subst ei
   refine CF rfl rfl (Acb _) ⟨rfl,_,_,rfl,rfl,?_⟩
   have hw0:wr 0=0:=rfl
   have:=Ca.mk (c:=⟨Acr i fz,Ade i,0,0,0⟩) (d:=d2) (b:=b) (T:=T) (cb:=cb) (s:=i) (r:=0) (bd:=bd) (n:=i) (by simp) (Aq.zero (b:=bf) (T:=Tf) (R:=RFr) (x:=fz) rfl (by omega) ⟨none,0,0,rfl,RSl.nil⟩ (by omega)) hn1 hn2 hn1 (fun j hj=>by simpa using hj)
   exact this
end Go.Gk.Cch
end
section
namespace Go.Gk.Node
open Go Go.Gk
attribute [local irreducible] gwp gws
def D3{α:Type} (R:Ac→List Value→α→Prop) (by_:Nat) (P:Program) (f:FuncId):Prop:=∀{d:Ac}{v:Value}{xs:List α},RSl 1 R d v xs→xs.length*by_≤140737488355328→
 Aw P f [v] d [] (Ret fun r d' L'=>d'=d∧∃h,L'=[h]∧Aq 1 R d r xs h)
def HY:AY:=⟨8,[(.tmp 2)],(sR (o1 2 (.mv nS) .done) (.seq (sR (om 3 0<|o1 4 (.eqs false (tP 3) nS) .done) (.cond (tP 4) (sR (o1 2 (.mv nS) .done) .ret) .skip)) (sR (o1 5 (.bsl 0 1 [(.int .u8 0)] [])<|om 6 0<|o1 7 (.app 1 1 [(.int .u8 0)] (tP 5) (tP 6))<|om 2 7 .done) .ret)))⟩
theorem OC{P:Program}{f:FuncId} (hd:dec P f=some HY):D3 AM 1 P f:=by
 intro d v xs hv hb
 have hv':=hv
 have hxl:=RSl.BZ hv
 obtain⟨a,c,b,o,rfl,h2,h3,h4,h5,_⟩:=hv
 refine AG hd (Aca rfl) ?_
 show gwp P _ _ _ _ _
 cases a with
 |none=>
  have:xs=[]:=Acm (by have:=h4 rfl;omega)
  subst this
  apply Ah;apply AA
  refine Cd d [emp] Vs.emp ?_
  (refine Am rfl<|Aa<|Ah<|Ad<|Am rfl<|Rx rfl rfl<|Aa<|Bh rfl<|Ad<|Am rfl<|Aa<|An ?_)
  exact BE (L':=[emp]) rfl (Acb _) ⟨rfl,emp,rfl,Aq.nil⟩
 |some a=>
  (refine Ad<|Am rfl<|Aa<|Ah<|Ad<|Am rfl<|RN rfl rfl<|Aa<|AS rfl<|Ak<|Ad ?_)
  refine Dn (cs:=[]) (by omega) rfl (fun b8 T8=>?_)
  (apply Am;rfl)
  refine ER 0 rfl rfl (Aq.Km (R:=AM) (sz:=1)) rfl (RSl.src (R:=AM) (xs:=xs) hv' Gj (by omega) _) (by omega) (by simp;omega) (by simp;omega) (fun v5 h5 hrow5=>?_)
  (refine AL<|Aa<|An ?_)
  exact BE (L':=[h5]) rfl (Acb _) ⟨rfl,h5,rfl,hrow5⟩
def IM:AY:=⟨8,[(.tmp 2)],(sR (o1 2 (.mv nS) .done) (.seq (sR (om 3 0<|o1 4 (.eqs false (tP 3) nS) .done) (.cond (tP 4) (sR (o1 2 (.mv nS) .done) .ret) .skip)) (sR (o1 5 (.bsl 0 1 [(.int .i64 0)] [])<|om 6 0<|o1 7 (.app 1 8 [(.int .i64 0)] (tP 5) (tP 6))<|om 2 7 .done) .ret)))⟩
theorem Ql{P:Program}{f:FuncId} (hd:dec P f=some IM):D3 Bg 8 P f:=by
 intro d v xs hv hb
 have hv':=hv
 have hxl:=RSl.BZ hv
 obtain⟨a,c,b,o,rfl,h2,h3,h4,h5,_⟩:=hv
 refine AG hd (Aca rfl) ?_
 show gwp P _ _ _ _ _
 cases a with
 |none=>
  have:xs=[]:=Acm (by have:=h4 rfl;omega)
  subst this
  apply Ah;apply AA
  refine Cd d [emp] Vs.emp ?_
  (refine Am rfl<|Aa<|Ah<|Ad<|Am rfl<|Rx rfl rfl<|Aa<|Bh rfl<|Ad<|Am rfl<|Aa<|An ?_)
  exact BE (L':=[emp]) rfl (Acb _) ⟨rfl,emp,rfl,Aq.nil⟩
 |some a=>
  (refine Ad<|Am rfl<|Aa<|Ah<|Ad<|Am rfl<|RN rfl rfl<|Aa<|AS rfl<|Ak<|Ad ?_)
  refine Dn (cs:=[]) (by omega) rfl (fun b8 T8=>?_)
  (apply Am;rfl)
  refine ER 0 rfl rfl (Aq.Km (R:=Bg) (sz:=1)) rfl (RSl.src (R:=Bg) (xs:=xs) hv' Dg (by omega) _) (by omega) (by simp;omega) (by simp;omega) (fun v5 h5 hrow5=>?_)
  (refine AL<|Aa<|An ?_)
  exact BE (L':=[h5]) rfl (Acb _) ⟨rfl,h5,rfl,hrow5⟩
end Go.Gk.Node
end
