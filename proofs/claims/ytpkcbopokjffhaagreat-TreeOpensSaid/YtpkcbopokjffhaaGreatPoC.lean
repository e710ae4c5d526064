/-
  Our own texts, one behind the other: Gk13 Gk14 Gk15 Gk39 Gk16 Gk17 Gk18 Gk23 Gk30 Gk31 Gk24 GkE0 GkE1 GkC0 GkC4 GkPg0 GkE2 GkC1 GkC2 GkC3 GkCl.
-/
import Derived.Test.YtpkcbopokjffhaaGreatPoB
open Nat renaming le_of_ble_eq_true→Aca,le_refl→Ach,zero_le→Adf,mul_le_mul_right→Adv,zero_add→Aeh,mul_one→Aen,add_mul→Aer,mod_eq_of_lt→Afd,not_lt_zero→Afm,mod_lt→Afn,sub_self→Afy,le_trans→Agk,one_mul→Agn
open List.Sublist renaming refl→Acb,cons_cons→Aeo
open Bool renaming and_eq_true→Acd,false_eq_true→Acj
open List renaming getElem?_eq_getElem→Ace,getD_eq_getElem?_getD→Acf,append_assoc→Acg,perm_append_comm→Aci,mem_append→Ack,length_append→Acl,eq_nil_of_length_eq_zero→Acm,length_drop→Aco,getElem?_eq_some_iff→Acp,all_eq_true→Acq,replicate→Acr,length_cons→Acs,mem_cons_self→Acu,mem_singleton→Acv,length_take→Acw,take_succ_eq_append_getElem→Acx,mem_cons_of_mem→Acy,sublist_cons_self→Acz,getElem_mem→Ada,mem_cons→Adb,range→Ade,length_set→Adg,mem_append_left→Adh,drop_eq_getElem_cons→Adi,length_replicate→Adn,getElem?_eq_none→Adq,append_nil→Ads,nil_append→Adt,getElem?_take_of_lt→Adu,length_map→Adx,getElem?_drop→Aea,getElem?_append_right→Aeb,take_of_length_le→Aec,getElem?_append_left→Aed,take_length→Aeg,getElem_of_mem→Aei,cons_append→Aej,getElem?_take→Aek,length_nil→Ael,getElem?_map→Aep,getD_cons_succ→Aeu,mem_of_getElem?→Aew,drop_of_length_le→Aex,getD_cons_zero→Aey,take_append_of_le_length→Afe,ext_getElem?→Afg,set_eq_of_length_le→Afh,nodup_append→Afi,map_cons→Afj,map_append→Afk,mem_range→Afq,nodup_cons→Afr,drop_length→Afv,getD→Afw,getElem?_cons_zero→Afx,set_cons_succ→Agb,getElem_append_right→Agd,sublist_append_left→Agg,getElem_append_left→Agi,mem_map→Agl,getElem?_cons_succ→Agm,drop_append_of_le_length→Ago,drop_left→Agp,nodup_nil→Agq,foldl_cons→Ags,all_cons→Agy,take_left→Ahc,ext_getElem→Ahd,drop_append→Ahf,pairwise_cons→Ahi,set_eq_take_append_cons_drop→Ahj,map_drop→Ahl,map_take→Ahm
open List.Perm renaming cons→Acn,swap→Adc,append_right→Afb
open Option renaming bind_some→Adz,map_some→Aeq,getD_some→Afo,isSome_none→Agr
open Int renaming toNat_natCast→Agh
section
namespace Go.Gk
open Go
section
def chunk(cs:List Value) (i sz:Nat):List Value:=(cs.drop (i*sz)).take sz
def As{α:Type} (sz:Nat) (R:Ac→List Value→α→Prop) (d:Ac) (v:Value) (xs:List α) (h:Ac):Prop:=
 ∃cs,BM sz v xs.length cs h∧∀i (hi:i<xs.length),R d (chunk cs i sz) xs[i]
def Src{α:Type} (sz:Nat) (R:Ac→List Value→α→Prop) (d:Ac) (Lk:List Ac) (w:Value) (ys:List α):Prop:=
 ∃news,RdX d Lk w ys.length sz news∧(news.all (·.oneCell'))=true∧∀i (hi:i<ys.length),R d (chunk news i sz) ys[i]
def Fy{α:Type} (R:Ac→List Value→α→Prop):Prop:=∀d cs x,R d cs x→(cs.all (·.oneCell'))=true
def F7{α:Type} (R:Ac→List Value→α→Prop):Prop:=∀{d d' cs x},Le d d'→R d cs x→R d' cs x
theorem Gv:Fy AP:=fun _ _ _ h=>by cases h;rfl
theorem Di:Fy Bi:=fun _ _ _ h=>by obtain⟨rfl,_⟩:=h;rfl
theorem Vq:Fy Ks:=fun _ _ _ h=>by obtain⟨rfl,_⟩:=h;rfl
theorem Fx:Fy RBs:=fun _ _ _ h=>by obtain⟨_,rfl,_,_,_,_,rfl,_⟩:=h;rfl
theorem AX:F7 AP:=fun _ h=>h
theorem Cb:F7 Bi:=fun _ h=>h
theorem Xl:F7 Ks:=fun _ h=>h
theorem EW:F7 RBs:=fun hl ⟨u,h1,h2⟩=>⟨u,h1,h2.mono hl⟩
section
variable {α:Type}{sz:Nat}{R:Ac→List Value→α→Prop}{d:Ac}{v:Value}{xs:List α}{h:Ac}
theorem Is{cs:List Value}{n i:Nat} (hl:cs.length=n*sz) (hi:i<n):(chunk cs i sz).length=sz:=by
 have:(i+1)*sz≤n*sz:=Adv sz hi
 rw [Aer,Agn] at this
 simp only [chunk,Acw,Aco,hl]
 omega
theorem FB{cs ds:List Value}{n i:Nat} (hl:cs.length=n*sz) (hi:i<n):chunk (cs++ds) i sz=chunk cs i sz:=by
 have:(i+1)*sz≤n*sz:=Adv sz hi
 rw [Aer,Agn] at this
 simp only [chunk]
 rw [Ago (by omega),Afe (by simp only [Aco];omega)]
theorem Fi{cs ds:List Value}{n i:Nat} (hl:cs.length=n*sz) (hi:n≤i):chunk (cs++ds) i sz=chunk ds (i - n) sz:=by
 have h1:n*sz≤i*sz:=Adv sz hi
 simp only [chunk]
 rw [Ahf,Aex (by omega),Adt,hl,Nat.sub_mul]
theorem As.nil:As sz R d (.slice none 0 0) [] emp:=⟨[],BM.nil sz,fun i hi=>absurd hi (Afm i)⟩
theorem As.KN{b:Nat}{T:TypeId}:As sz R d (.slice (some ⟨b,0,none⟩) 0 0) [] (bx b T []):=⟨[],BM.lit (by simp) (by simp),fun i hi=>absurd hi (Afm i)⟩
theorem As.mono(hR:F7 R) (o:As sz R d v xs h) {d':Ac} (hl:Le d d'):As sz R d' v xs h:=
 let ⟨cs,h1,h2⟩:=o
 ⟨cs,h1,fun i hi=>hR hl (h2 i hi)⟩
theorem As.BW(o:As sz R d v xs h):xs.length≤140737488355328:=let ⟨_,h1,_⟩:=o;h1.2.1
theorem As.val(o:As sz R d v xs h):∃a c,v=.slice a xs.length c:=by
 obtain⟨cs,h1,_⟩:=o
 obtain⟨a,b,c,e,_⟩:=h1.slice
 exact⟨a,c,e⟩
theorem RSl.val(o:RSl sz R d v xs):∃a c,v=.slice a xs.length c:=let ⟨a,c,_,_,e,_⟩:=o;⟨a,c,e⟩
theorem As.rsl(o:As sz R d v xs h) (hR:F7 R) (hsz:0<sz) {d':Ac} (hl:Le d d') (hh:Le h d'):RSl sz R d' v xs:=by
 obtain⟨cs,h1,h2⟩:=o
 exact h1.rsl hh rfl hsz (fun i hi=>hR hl (h2 i hi))
theorem As.src(o:As sz R d v xs h) (hc:Fy R) {Lk:List Ac} (hk:h∈Lk):Src sz R d Lk v xs:=by
 obtain⟨cs,h1,h2⟩:=o
 refine⟨cs,h1.rdx hk,?_,h2⟩
 have hl:=h1.1
 rw [Acq]
 intro u hu
 obtain⟨j,hj,rfl⟩:=Aei hu
 by_cases h0:sz=0
 ·subst h0;simp at hl;subst hl;simp at hj
 ·have hq:j / sz<xs.length:=by rw [Nat.div_lt_iff_lt_mul (by omega)];omega
  have:=Acq.1 (hc _ _ _ (h2 _ hq)) cs[j] (by
   have hdm:=Nat.div_add_mod' j sz
   have hm:=Afn j (show 0<sz by omega)
   rw [List.mem_iff_getElem?]
   refine⟨j % sz,?_⟩
   rw [chunk,Adu hm,Aea,hdm,Ace hj])
  exact this
theorem RSl.src(o:RSl sz R d v xs) (hc:Fy R) (_:0<sz) (Lk:List Ac):Src sz R d Lk v xs:=by
 obtain⟨a,c,b,o,rfl,h2,h3,h4,h5,h6,h7,h8⟩:=o
 have key:∀n,n≤xs.length→∃news:List Value,news.length=n*sz∧(∀j u,news[j]?=some u→DC d b (o+j) u)∧(news.all (·.oneCell'))=true∧∀i (hi:i<n) (hi':i<xs.length),R d (chunk news i sz) xs[i]:=by
  intro n
  induction n with
  |zero=>exact fun _=>⟨[],by simp,fun j u hu=>by simp at hu,rfl,fun i hi=>absurd hi (Afm i)⟩
  |succ n ih=>
   intro hn
   obtain⟨news,k1,k2,k3,k4⟩:=ih (by omega)
   obtain⟨cs,m1,m2,m3⟩:=h8 n (by omega)
   refine⟨news++cs,by simp [k1,m1,Aer],fun j u hu=>?_,?_,fun i hi hi'=>?_⟩
   ·rw [List.getElem?_append] at hu
    split at hu
    ·exact k2 j u hu
    ·rename_i hj
     have:=m2.at hu
     rw [k1] at this
     rw [show o+j=o+n*sz+(j - n*sz) by omega]
     exact this
   ·rw [List.all_append,k3,hc _ _ _ m3];rfl
   ·by_cases e:i<n
    ·rw [FB k1 e];exact k4 i e hi'
    ·obtain rfl:i=n:=by omega
     rw [Fi k1 (Ach _),Afy]
     have:chunk cs 0 sz=cs:=by simp [chunk,←m1]
     rw [this];exact m3
 obtain⟨news,k1,k2,k3,k4⟩:=key xs.length (Ach _)
 refine⟨news,⟨a,c,rfl,k1,fun e=>?_,fun a' ha i u hu=>?_⟩,k3,fun i hi=>k4 i hi hi⟩
 ·cases xs with
  |nil=>exact Acm (by simpa using k1)
  |cons x xs=>have:=h2 (by simp);rw [e] at this;cases this
 ·have h0:xs.length≠0:=by
   intro h0
   rw [h0,Nat.zero_mul] at k1
   rw [Acm k1] at hu;simp at hu
  have e:=h2 h0
  rw [ha] at e;cases e
  rw [Addr.add_lit]
  exact BF (k2 i u hu)
theorem Src.lit{Lk:List Ac}{b c n:Nat}{T:TypeId}{cs:List Value}{ys:List α} (i:Nat) (hi:Lk[i]?=some (bx b T cs)) (hn:n=ys.length) (hl:cs.length=ys.length*sz) (h1:(cs.all (·.oneCell'))=true)
  (h2:∀i (hi:i<ys.length),R d (chunk cs i sz) ys[i]):Src sz R d Lk (.slice (some ⟨b,0,none⟩) n c) ys:=by
 subst hn
 exact⟨cs,RdX.lit i hi hl,h1,h2⟩
theorem As.lit{b n:Nat}{T:TypeId}{cs:List Value} (hn:n=xs.length) (hl:cs.length=xs.length*sz) (hx:xs.length≤140737488355328) (h2:∀i (hi:i<xs.length),R d (chunk cs i sz) xs[i]):
  As sz R d (.slice (some ⟨b,0,none⟩) n n) xs (bx b T cs):=by
 subst hn
 exact⟨cs,BM.lit hl hx,h2⟩
theorem As.Es{b:Nat}{T:TypeId}{cs:List Value}{x:α} (hl:cs.length=sz) (h2:R d cs x):As sz R d (.slice (some ⟨b,0,none⟩) 1 1) [x] (bx b T cs):=
 As.lit rfl (by simp [hl]) (by simp) (fun i hi=>by
  obtain rfl:i=0:=by simpa using hi
  have:chunk cs 0 sz=cs:=by simp [chunk,←hl]
  rw [this];exact h2)
end
theorem As.Yz{d:Ac}{b n:Nat}{T:TypeId}{cs:List Value}{l:List UInt8} (e:cs=l.map Az) (hn:n=l.length) (hx:l.length≤140737488355328):As 1 AP d (.slice (some ⟨b,0,none⟩) n n) l (bx b T cs):=by
 subst e
 refine As.lit hn (by simp) hx (fun i hi=>?_)
 simp only [AP,chunk,Aen,←Ahl,←Ahm]
 rw [Adi hi];rfl
theorem As.AbN{d:Ac}{b n:Nat}{T:TypeId}{cs:List Value}{l:List Int} (e:cs=l.map (Value.int .i64)) (hb:∀x∈l, -9223372036854775808≤x∧x≤9223372036854775807) (hn:n=l.length) (hx:l.length≤140737488355328):As 1 Bi d (.slice (some ⟨b,0,none⟩) n n) l (bx b T cs):=by
 subst e
 refine As.lit hn (by simp) hx (fun i hi=>?_)
 simp only [Bi,chunk,Aen,←Ahl,←Ahm]
 rw [Adi hi];exact⟨rfl,hb _ (Ada hi)⟩
theorem As.bytes{d:Ac}{v:Value}{xs:List UInt8}{h:Ac} (o:As 1 AP d v xs h):BM 1 v xs.length (xs.map Az) h:=by
 obtain⟨cs,h1,h2⟩:=o
 have hl:=h1.1
 have:cs=xs.map Az:=by
  apply Ahd
  ·simp at hl⊢;exact hl
  ·intro i h3 h4
   have h5:i<xs.length:=by simpa using h4
   have h6:chunk cs i 1=[Az xs[i]]:=h2 i h5
   simp only [chunk,Aen] at h6
   have h7:=congrArg (·[0]?) h6
   simp only [Adu (show 0<1 by omega),Aea,Nat.add_zero,Ace h3,Afx,Option.some.injEq] at h7
   simp [h7]
 rw [←this];exact h1
section
variable {P:Program}{pan:List PanicEntry→AS}{Qn:Env→AS}{Ls L:List Ac}{ρ:Env}{d:Ac}{s:GS}{t:Nat}{tk:Bool}
theorem EP{α:Type}{sz by_:Nat}{R:Ac→List Value→α→Prop}{z:List Value}{x y:Operand} (i:Nat) {v w:Value}{xs ys:List α}{h:Ac} (ex:ev ρ x=v) (hi:L[i]?=some h) (ho:As sz R d v xs h)
  (ey:ev ρ y=w) (hs:Src sz R d (Ls++L++L) w ys) (hsz:0<sz) (hm:xs.length+ys.length≤140737488355328) (hb:(xs.length+ys.length)*by_≤140737488355328)
  (k:∀v' h',As sz R d v' (xs++ys) h'→gws P pan Qn s Ls (upd ρ t v') d (L.set i h')):gws P pan Qn (.op false ⟨some t,none,.app sz by_ z x y⟩ s) Ls ρ d L:=by
 obtain⟨cs,h1,h2⟩:=ho
 obtain⟨news,k1,k2,k3⟩:=hs
 have hl:=h1.1
 refine AbC i ex hi h1 ey k1 k2 hsz hm hb (fun v' h' o=>k v' h' ⟨cs++news,by rw [Acl];exact o,fun j hj=>?_⟩)
 by_cases e:j<xs.length
 ·rw [FB hl e,Agi e];exact h2 j e
 ·rw [Fi hl (by omega),Agd (by omega)]
  exact k3 _ (by simp at hj;omega)
theorem D8{α:Type}{sz by_:Nat}{R:Ac→List Value→α→Prop}{z:List Value}{x y:Operand} (i:Nat) {v w:Value}{xs ys:List α}{h g:Ac} (ex:ev ρ x=v) (hi:L[i]?=some h) (ho:As sz R d v xs h)
  (ey:ev ρ y=w) (hs:As sz R d w ys g) (hc:Fy R) (hsz:0<sz) (hm:xs.length+ys.length≤140737488355328) (hb:(xs.length+ys.length)*by_≤140737488355328)
  (k:∀v' h',As sz R d v' (xs++ys) h'→gws P pan Qn s Ls (upd ρ t v') d (L.set i h')):gws P pan Qn (.op false ⟨some t,none,.app sz by_ z x y⟩ s) Ls ρ d (g::L):=by
 obtain⟨cs,h1,h2⟩:=ho
 obtain⟨news,k1,k2,k3⟩:=(hs.src hc (by simp):Src sz R d (Ls++(g::L)++(g::L)) w ys)
 have hl:=h1.1
 refine Oh (i+1) ex (by simpa using hi) h1 ey k1 k2 hsz hm hb (fun v' h' o=>⟨d,L.set i h',?_,k v' h' ⟨cs++news,by rw [Acl];exact o,fun j hj=>?_⟩⟩)
 ·rw [Agb]
  exact Vs.drop (Acz _ _)
 ·by_cases e:j<xs.length
  ·rw [FB hl e,Agi e];exact h2 j e
  ·rw [Fi hl (by omega),Agd (by omega)]
   exact k3 _ (by simp at hj;omega)
theorem VQ{α:Type}{sz:Nat}{R:Ac→List Value→α→Prop}{x:Operand}{v:Value}{xs:List α}{h:Ac} (ex:ev ρ x=v) (hr:As sz R d v xs h) (k:gws P pan Qn s Ls (upd ρ t (.int .i64 xs.length)) d L):
  gws P pan Qn (.op tk ⟨some t,none,.len x⟩ s) Ls ρ d L:=by
 obtain⟨a,c,rfl⟩:=hr.val
 exact AL ex k
theorem BH{α:Type}{sz:Nat}{R:Ac→List Value→α→Prop}{x i:Operand}{v:Value}{xs:List α}{k:IntKind}{j:Int}{m:Nat} (ex:ev ρ x=v) (hr:RSl sz R d v xs) (ei:ev ρ i=.int k j) (hm:j=(m:Int)) (hl:m<xs.length)
  (h:∀b o cs,cs.length=sz→DCs d b o cs→R d cs xs[m]→gws P pan Qn s Ls (upd ρ t (.pointer (some ⟨b,o,none⟩))) d L):gws P pan Qn (.op tk ⟨some t,none,.idx sz x i⟩ s) Ls ρ d L:=by
 obtain⟨a,c,b,o,rfl,h2,h3,h4,h5,h6,h7,h8⟩:=hr
 obtain⟨cs,k1,k2,k3⟩:=h8 m hl
 exact BA m ex ei hm hl h2 (h b _ cs k1 k2 k3)
end
section
variable {P:Program}{Q:BZ}{ρ:Env}{d:Ac}{L:List Ac}
theorem Z8{α:Type}{a:Cg} (slots:α→Value→List (Nat×Value)) (inv:α→Value→Ac→Ac→List Ac→Prop) (meas:α→Nat) (x0:α) (v0:Value) (h0:Ac) (hs:BD ρ (slots x0 v0)) (i0:inv x0 v0 h0 d L)
  (round:∀x v h ρ d L,inv x v h d L→gwp P a {Q with n:=fun ρ d L=>∃x' v' h',meas x'<meas x∧BD ρ (slots x' v')∧inv x' v' h' d L} (IE ρ (slots x v)) d L):gwp P (.loop a) Q ρ d L:=
 CI (α:=α×Value×Ac) (fun x=>slots x.1 x.2.1) (fun x d L=>inv x.1 x.2.1 x.2.2 d L) (fun x=>meas x.1) (x0,v0,h0) hs i0
  (fun x ρ d L hi=>MR (fun _ _ _ ⟨x',v',h',a,b,c⟩=>⟨(x',v',h'),a,b,c⟩) (round x.1 x.2.1 x.2.2 ρ d L hi))
end
section
variable {P:Program}{pan:List PanicEntry→AS}{Qn:Env→AS}{Ls L:List Ac}{ρ:Env}{d:Ac}{s t:GS}{g:GOp}
theorem EB(h1:gws P pan Qn (.op false g s) Ls ρ d L) (h2:gws P pan Qn t Ls ρ d L):gws P pan Qn (.alt g s t) Ls ρ d L:=⟨h1,h2⟩
theorem Aa1(is:List Nat) (hp:is.isPerm (Ade L.length)=true) (h:gws P pan Qn (.op false g s) Ls ρ d (pick L is)):gws P pan Qn (.op false g s) Ls ρ d L:=B9 d _ (Vs.pick is hp) h
theorem FE(h:∃d1 L1,Vs d L d1 L1∧Qn ρ d1 L1):gws P pan Qn .done [] ρ d L:=h
theorem Au{C:Addr→Value→Prop}{t:Nat}{v:Value} (e:ρ t=v):Kp ρ C (.tmp t) v:=e.symm
theorem AT{t n b:Nat}{T:TypeId}{l:List Value} (i:Nat) (e:ρ t=.pointer (some ⟨b,0,none⟩)) (hi:L[i]?=some (bx b T l)) (hn:l.length=n):Kp ρ (HC d L) (.cell t (some n)) (.agg l.toArray):=
 ⟨b,0,l,e,hn,fun j u hu=>by rw [Aeh];exact Aj i hi hu,rfl⟩
theorem Aa4{res:List Gb}{R:Ending→Ac→List Ac→Prop} (vs:List Value) (hr:Gu ρ (HC d L) res vs) (h:∀d',Le d d'→(∀k∈L,Le k d')→R (.returned (JV vs)) d' []):CA res R ρ d L:=
 let ⟨d',h1,h2,h3⟩:=Vs.HV d L
 ⟨vs,hr,d',[],h1,h d' h2 h3⟩
theorem EF{res:List Gb}{R:Ending→Ac→List Ac→Prop} (vs:List Value) {L':List Ac} (hr:Gu ρ (HC d L) res vs) (hs:L'.Sublist L) (h:R (.returned (JV vs)) d L'):CA res R ρ d L:=
 ⟨vs,hr,d,L',Vs.drop hs,h⟩
end
section
variable {P:Program}{pan:List PanicEntry→AS}{Qn:Env→AS}{Ls L:List Ac}{ρ:Env}{d:Ac}{s:GS}{t:Nat}{tk:Bool}
end
theorem Aw.Abn{P:Program}{f:FuncId}{args:List Value}{d:Ac}{L:List Ac}{R R':Ending→Ac→List Ac→Prop}
  (h:Aw P f args d L R) (hr:∀e d' L',Le d d'→R e d' L'→∃d2 L2,Vs d' L' d2 L2∧R' e d2 L2):Aw P f args d L R':=
 ⟨h.1,fun F W x=>(h.2 F W x).mono fun e W' ⟨d',L',a,b,c,r⟩=>let ⟨d2,L2,v,r2⟩:=hr e d' L' b r;⟨d2,L2,v.2 F W' a,b.trans v.1,c,r2⟩⟩
theorem Aw.Dr{P:Program}{f:FuncId}{args:List Value}{d:Ac}{L:List Ac}{R R':Value→Ac→List Ac→Prop}
  (h:Aw P f args d L (Ret R)) (hr:∀v d' L',Le d d'→R v d' L'→∃d2 L2,Vs d' L' d2 L2∧R' v d2 L2):Aw P f args d L (Ret R'):=
 h.Abn (fun e d' L' hl r=>by
  cases e with
  |returned v=>exact hr v d' L' hl r
  |panicked c=>exact r.elim
  |outgrown=>exact r.elim)
theorem Ep.grow{N:Nat}{v:Value}{c:List UInt8}{h d:Ac} (r:Ep N v c h) (hN:N≤140737488355328):As 1 AP d v c h:=by
 obtain⟨hc,b,T,rfl,rfl⟩:=r
 refine⟨c.map Az,BM.mk (by simp) (by omega) hc (by omega) (by simp;omega) (by simp),fun i hi=>?_⟩
 simp only [AP,chunk,Aen,←Ahl,←Ahm]
 rw [Adi hi];rfl
end
section
def Ho:List Ac→Ac
 |[]=>emp
 |h::L=>join h (Ho L)
theorem HT:∀{L:List Ac}{h:Ac},h∈L→Le h (Ho L)
 |k::L,h,hm=>by
  rcases Adb.1 hm with rfl|hm
  ·exact Le.AI _ _
  ·exact(HT hm).trans (Le.A9 _ _)
theorem NQ{k:Ac}:∀{L:List Ac},(∀h∈L,EE k h)→EE k (Ho L)
 |[],_=>fun _ _ _ _ e=>e.elim
 |h::_,hd=>fun b o o' e e'=>e'.elim (hd h (Acu ..) b o o' e) (NQ (fun h' hm=>hd h' (Acy _ hm)) b o o' e)
theorem Vs.cons{d d' h:Ac}{L L':List Ac} (v:Vs d L d' L'):Vs d (h::L) d' (h::L'):=
 ⟨v.1,fun F W x=>(v.2 (h::F) W (x.perm (List.perm_middle.symm.cons d))).perm (List.perm_middle.cons d')⟩
theorem Vs.Uw{d:Ac}{L0:List Ac}:∀{L:List Ac},L.Pairwise EE→Vs d (Ho L::L0) d (L++L0)
 |[],_=>Vs.drop (Acz _ _)
 |h::L,hp=>by
  rw [Ahi] at hp
  exact(Vs.split (NQ hp.1)).trans (Vs.cons (Vs.Uw hp.2))
theorem Vs.U0{d:Ac}{L0:List Ac}:∀{L:List Ac},Vs d (L++L0) d (Ho L::L0)
 |[]=>Vs.emp
 |_::L=>(Vs.cons (Vs.U0 (L:=L))).trans Vs.join
theorem Ok.pw{d:Ac}{L F:List Ac}{W:World} (x:Ok (d::(L++F)) W):(d::L).Pairwise EE:=x.1.sublist ((Agg L F).cons_cons d)
theorem CT.borrow{P:Program}{f:FuncId}{vs:List Value}{d:Ac}{L:List Ac}{v:Value} (h:∀d1,Le d d1→(∀k∈L,Le k d1)→CT P f vs d1 v):
  Aw P f vs d L (Ret fun r d' L'=>r=v∧d'=d∧L'=L):=by
 have h:=h (Ho (d::L)) (HT (Acu ..)) (fun k hk=>HT (Acy _ hk))
 refine⟨h.1,fun F W x=>?_⟩
 have hp:=x.pw
 have y:Ok (Ho (d::L)::([]++F)) W:=by
  have:=(Vs.U0 (d:=emp) (L0:=F) (L:=d::L)).2 [] W (by simpa using x.emp)
  simpa using this.tail
 refine(h.2 F W y).mono fun e W' ⟨d',L',a,b,c,r⟩=>?_
 cases e with
 |panicked c=>exact r.elim
 |outgrown=>exact r.elim
 |returned u=>
  obtain⟨rfl,rfl,rfl⟩:=r
  refine⟨d,L,?_,Le.refl d,c,rfl,rfl,rfl⟩
  have:=(Vs.Uw (d:=emp) (L0:=F) hp).2 [] W' (by simpa using a.emp)
  simpa using this.tail
section
variable {P:Program}{pan:List PanicEntry→AS}{Qn:Env→AS}{Ls L:List Ac}{ρ:Env}{d:Ac}{s:GS}{t:Nat}{tk:Bool}
theorem Jj{f:FuncId}{args:List Operand}{vs:List Value}{v:Value} (ea:args.map (ev ρ)=vs) (hc:∀d1,Le d d1→(∀k∈L,Le k d1)→CT P f vs d1 v)
  (h:gws P pan Qn s Ls (upd ρ t v) d L):gws P pan Qn (.op false ⟨some t,none,.call f args⟩ s) Ls ρ d L:=by
 refine Fa (R:=fun r d' L'=>r=v∧d'=d∧L'=L) L.length ea (by rw [Aeg];exact CT.borrow hc) (fun r d' L' _ ⟨h1,h2,h3⟩=>?_)
 subst h1;subst h2;subst h3
 rw [Afv,Ads];exact h
theorem DD{f:FuncId}{args:List Operand}{R:Value→Ac→List Ac→Prop}{vs:List Value}{A B:List Ac} (hL:L=A++B) (ea:args.map (ev ρ)=vs) (hc:Aw P f vs d A (Ret R))
  (h:∀v d' L',Le d d'→R v d' L'→gws P pan Qn s Ls (upd ρ t v) d' (L'++B)):gws P pan Qn (.op false ⟨some t,none,.call f args⟩ s) Ls ρ d L:=by
 subst hL
 refine Fa A.length ea (by rw [Ahc];exact hc) (fun v d' L' hl hr=>?_)
 rw [Agp];exact h v d' L' hl hr
end
theorem RSl.cut{α:Type}{sz:Nat}{R:Ac→List Value→α→Prop}{d:Ac}{a:Option Addr}{n c:Nat}{xs:List α} (hr:RSl sz R d (.slice a n c) xs) {l h m:Nat} (h1:l≤h) (h2:h≤m) (h3:m≤c) (h4:h≤xs.length):
  RSl sz R d (.slice (if m=l then a else a.map fun a=>⟨a.block,a.off+l*sz,none⟩) (h - l) (m - l)) ((xs.drop l).take (h - l)):=by
 obtain⟨a',c',b,o,e,k2,k3,k4,k5,k6,k7,k8⟩:=hr
 cases e
 have hl:((xs.drop l).take (h - l)).length=h - l:=by simp;omega
 refine⟨_,m - l,b,o+l*sz,by rw [hl],fun h0=>?_,fun h0 a' ha=>?_,fun h0=>?_,by omega,by omega,by omega,fun i hi=>?_⟩
 ·rw [hl] at h0
  rw [if_neg (by omega),k2 (by omega)];rfl
 ·rw [if_neg (by omega)] at ha
  cases a with
  |none=>cases ha
  |some a=>cases ha;rfl
 ·split at h0
  ·omega
  ·cases a with
   |none=>have:=k4 rfl;omega
   |some a=>cases h0
 ·rw [hl] at hi
  obtain⟨cs,j1,j2,j3⟩:=k8 (l+i) (by omega)
  refine⟨cs,j1,?_,?_⟩
  ·rw [Aer,←Nat.add_assoc] at j2;exact j2
  ·simpa using j3
section
variable {P:Program}{pan:List PanicEntry→AS}{Qn:Env→AS}{Ls L:List Ac}{ρ:Env}{d:Ac}{s:GS}{t:Nat}{tk:Bool}{α:Type}{sz:Nat}{R:Ac→List Value→α→Prop}{x y z:Operand}{v:Value}{xs:List α}{kk kk':IntKind}{n m:Nat}
theorem Ol{j:Int} (ex:ev ρ x=v) (hr:RSl sz R d v xs) (ey:ev ρ y=.int kk j) (hj:j=(n:Int)) (hn:n≤xs.length) (k:∀v',RSl sz R d v' (xs.take n)→gws P pan Qn s Ls (upd ρ t v') d L):
  gws P pan Qn (.op tk ⟨some t,none,.sl sz x none (some y) none⟩ s) Ls ρ d L:=by
 subst hj
 have hr':=hr
 obtain⟨a,c,b,o,rfl,h2,h3,h4,h5,h6,h7,h8⟩:=hr
 have hc:DQ xs.length c none (some (ev ρ y)) none=some (0,n,c):=by
  simp only [DQ,GN,Gs,GM,Adz,Aeq,ey,bnd]
  rw [if_pos (by omega)];simp
 refine w_q rfl ⟨a,xs.length,c,0,n,c,ex,h3,hc,rfl⟩ (k _ ?_)
 simpa using hr'.cut (l:=0) (h:=n) (m:=c) (by omega) (by omega) (Ach c) hn
theorem Lz{j j':Int} (ex:ev ρ x=v) (hr:RSl sz R d v xs) (ey:ev ρ y=.int kk j) (ez:ev ρ z=.int kk' j') (hj:j=(n:Int)) (hj':j'=(n:Int)) (hn:n≤xs.length) (k:∀v',RSl sz R d v' (xs.take n)→gws P pan Qn s Ls (upd ρ t v') d L):
  gws P pan Qn (.op tk ⟨some t,none,.sl sz x none (some y) (some z)⟩ s) Ls ρ d L:=by
 subst hj;subst hj'
 have hr':=hr
 obtain⟨a,c,b,o,rfl,h2,h3,h4,h5,h6,h7,h8⟩:=hr
 have hc:DQ xs.length c none (some (ev ρ y)) (some (ev ρ z))=some (0,n,n):=by
  simp only [DQ,GN,Gs,GM,ey,ez,bnd]
  rw [if_pos (by omega)]
  simp
 refine w_q rfl ⟨a,xs.length,c,0,n,n,ex,fun h0=>h3 (by omega),hc,rfl⟩ (k _ ?_)
 simpa using hr'.cut (l:=0) (h:=n) (m:=n) (by omega) (by omega) (by omega) hn
theorem ED{j:Int} (ex:ev ρ x=v) (hr:RSl sz R d v xs) (ey:ev ρ y=.int kk j) (hj:j=(n:Int)) (hn:n≤xs.length) (k:∀v',RSl sz R d v' (xs.drop n)→gws P pan Qn s Ls (upd ρ t v') d L):
  gws P pan Qn (.op tk ⟨some t,none,.sl sz x (some y) none none⟩ s) Ls ρ d L:=by
 subst hj
 have hr':=hr
 obtain⟨a,c,b,o,rfl,h2,h3,h4,h5,h6,h7,h8⟩:=hr
 have hc:DQ xs.length c (some (ev ρ y)) none none=some (n,xs.length,c):=by
  simp only [DQ,GN,Gs,GM,Agr,Acj,if_false,Adz,ey,bnd]
  rw [if_pos (by omega)];simp
 refine w_q rfl ⟨a,xs.length,c,n,xs.length,c,ex,fun(h0:c≠n)=>h3 (by omega),hc,rfl⟩ (k _ ?_)
 have:=hr'.cut (l:=n) (h:=xs.length) (m:=c) (by omega) (by omega) (Ach c) (Ach _)
 rwa [Aec (by simp)] at this
theorem ZO{j j':Int} (ex:ev ρ x=v) (hr:RSl sz R d v xs) (ey:ev ρ y=.int kk j) (ez:ev ρ z=.int kk' j') (hj:j=(n:Int)) (hj':j'=(m:Int)) (hnm:n≤m) (hn:m≤xs.length) (k:∀v',RSl sz R d v' ((xs.drop n).take (m - n))→gws P pan Qn s Ls (upd ρ t v') d L):
  gws P pan Qn (.op tk ⟨some t,none,.sl sz x (some y) (some z) none⟩ s) Ls ρ d L:=by
 subst hj;subst hj'
 have hr':=hr
 obtain⟨a,c,b,o,rfl,h2,h3,h4,h5,h6,h7,h8⟩:=hr
 have hc:DQ xs.length c (some (ev ρ y)) (some (ev ρ z)) none=some (n,m,c):=by
  simp only [DQ,GN,Gs,GM,Adz,ey,ez,bnd]
  rw [if_pos (by omega)]
  simp only [Adz,Agh]
  rw [if_pos (by omega)];simp
 exact w_q rfl ⟨a,xs.length,c,n,m,c,ex,fun(h0:c≠n)=>h3 (by omega),hc,rfl⟩ (k _ (hr'.cut (l:=n) (h:=m) (m:=c) hnm (by omega) (Ach c) hn))
end
section
variable {P:Program}{pan:List PanicEntry→AS}{Qn:Env→AS}{Ls L:List Ac}{ρ:Env}{d:Ac}{s:GS}{t:Nat}
theorem TZ{sz by_:Nat}{z:List Value}{x y:Operand} (i:Nat) {v:Value}{n m b:Nat}{T:TypeId}{xs cs:List Value}{h:Ac} (ex:ev ρ x=v) (hi:L[i]?=some h) (ho:BM sz v n xs h)
  (ey:ev ρ y=.slice (some ⟨b,0,none⟩) m m) (hl:cs.length=m*sz) (h1:(cs.all (·.oneCell'))=true) (hsz:0<sz) (hm:n+m≤140737488355328) (hb:(n+m)*by_≤140737488355328)
  (k:∀v' h',BM sz v' (n+m) (xs++cs) h'→gws P pan Qn s Ls (upd ρ t v') d (L.set i h')):gws P pan Qn (.op false ⟨some t,none,.app sz by_ z x y⟩ s) Ls ρ d (bx b T cs::L):=by
 have hrd:RdX d (Ls++(bx b T cs::L)++(bx b T cs::L)) (.slice (some ⟨b,0,none⟩) m m) m sz cs:=
  RdX.lit (T:=T) (Ls.length) (by rw [Acg,Aeb (Ach _)];simp) hl
 refine Oh (i+1) ex (by simpa using hi) ho ey hrd h1 hsz hm hb (fun v' h' o=>⟨d,L.set i h',?_,k v' h' o⟩)
 rw [Agb]
 exact Vs.drop (Acz _ _)
end
theorem Vs.Um{d:Ac} (Ls:List (List Ac)) (is js:List Nat) (hp:(is++js).isPerm (Ade Ls.length)=true):Vs d Ls.flatten d ((is.map fun i=>Ls.getD i []).flatten):=by
 have hp:(is++js).Perm (Ade Ls.length):=List.isPerm_iff.1 hp
 have h1:=hp.symm.map fun i=>Ls.getD i []
 have h0:(Ade Ls.length).map (fun i=>Ls.getD i [])=Ls:=by
  apply Ahd
  ·simp
  ·intro i h1 h2
   simp [Afw,h2]
 rw [h0,Afk] at h1
 have h2:=h1.flatten
 rw [List.flatten_append] at h2
 exact(Vs.perm h2).trans (Vs.drop (Agg _ _))
section
variable {P:Program}{Q:BZ}{ρ:Env}{d:Ac}{L:List Ac}
theorem Br{s:GS} (Ls L1:List Ac) (hL:L=Ls++L1) (h:gws P Q.pan Q.n s Ls ρ d L1):gwp P (.reg true s) Q ρ d L:=⟨d,Ls,L1,by rw [hL];exact Vs.refl d _,h⟩
theorem A7{res:List Gb}{R:Ending→Ac→List Ac→Prop} (vs:List Value) {d':Ac}{L':List Ac} (hr:Gu ρ (HC d L) res vs) (hs:Vs d L d' L') (h:R (.returned (JV vs)) d' L'):CA res R ρ d L:=
 ⟨vs,hr,d',L',hs,h⟩
end
theorem We{l:List Value}{m:Nat}{x:Value} (h:m<l.length):patch l m [x]=l.set m x:=by
 rw [Ahj,if_pos h];simp [patch]
theorem BM.Abw{n:Nat}{v:Value}{us:List Value}{h:Ac} (o:BM 1 v n us h) {m:Nat} (hm:m<n):
  ∃b T l c,v=.slice (some ⟨b,0,none⟩) n c∧h=bx b T l∧m<l.length∧(∀u,us[m]?=some u→l[m]?=some u)∧∀x,BM 1 v n (us.set m x) (bx b T (patch l m [x])):=by
 obtain⟨h1,h2,⟨rfl,rfl,rfl⟩|⟨b,T,l,c,rfl,rfl,h3,h4,h5,h6⟩⟩:=o
 ·omega
 ·have hml:m<l.length:=by omega
  refine⟨b,T,l,c,rfl,rfl,hml,fun u hu=>?_,fun x=>?_⟩
  ·rw [←h6] at hu
   rw [Adu (by omega)] at hu
   exact hu
  ·rw [We hml]
   refine⟨by simpa using h1,h2,.inr ⟨b,T,l.set m x,c,rfl,rfl,h3,h4,by simpa using h5,?_⟩⟩
   rw [Adg,List.take_set,h6]
theorem As.D9{d:Ac}{v:Value}{xs:List UInt8}{h:Ac} (o:As 1 AP d v xs h) {m:Nat} (hm:m<xs.length):
  ∃b T l c,v=.slice (some ⟨b,0,none⟩) xs.length c∧h=bx b T l∧m<l.length∧l[m]?=some (Az xs[m])∧∀y,As 1 AP d v (xs.set m y) (bx b T (patch l m [Az y])):=by
 obtain⟨b,T,l,c,h1,h2,h3,h4,h5⟩:=o.bytes.Abw hm
 refine⟨b,T,l,c,h1,h2,h3,h4 _ (by simp [hm]),fun y=>?_⟩
 have:=h5 (Az y)
 rw [←List.map_set] at this
 refine⟨(xs.set m y).map Az,by rw [Adg];exact this,fun i hi=>?_⟩
 simp only [AP,chunk,Aen,←Ahl,←Ahm]
 rw [Adi hi];rfl
section
variable {P:Program}{pan:List PanicEntry→AS}{Qn:Env→AS}{Ls L:List Ac}{ρ:Env}{d:Ac}{s:GS}{t:Nat}{tk:Bool}
theorem Kj{x i:Operand}{b n c:Nat}{k:IntKind}{j:Int} (m:Nat) (ex:ev ρ x=.slice (some ⟨b,0,none⟩) n c) (ei:ev ρ i=.int k j) (hm:j=(m:Int)) (hl:m<n)
  (h:gws P pan Qn s Ls (upd ρ t (.pointer (some ⟨b,m,none⟩))) d L):gws P pan Qn (.op tk ⟨some t,none,.idx 1 x i⟩ s) Ls ρ d L:=
 BA (o:=0) m ex ei hm hl (SAd.some n b 0) (by rw [Aeh,Aen];exact h)
end
end
section
def flat:List (List Ac)→List Ac
 |[]=>[]
 |[l]=>l
 |l::m::Ls=>l++flat (m::Ls)
theorem TC:∀Ls:List (List Ac),flat Ls=Ls.flatten
 |[]=>rfl
 |[l]=>by simp [flat]
 |l::m::Ls=>by simp only [flat];rw [TC (m::Ls)];simp
theorem Vs.Rg{d:Ac}{L L':List Ac} (Ls:List (List Ac)) (is js:List Nat) (hp:(is++js).isPerm (Ade Ls.length)=true) (hL:L=flat Ls) (hL':(is.map fun i=>Ls.getD i []).flatten=L'):Vs d L d L':=by
 subst hL';rw [hL,TC];exact Vs.Um Ls is js hp
theorem Aw.borrow{P:Program}{f:FuncId}{vs:List Value}{d:Ac}{L:List Ac}{Q:Value→List Ac→Prop} (h:∀d1,Le d d1→(∀k∈L,Le k d1)→Aw P f vs d1 [] (Ret fun r d' L'=>d'=d1∧Q r L')):
  Aw P f vs d L (Ret fun r d' L'=>d'=d∧∃L1,L'=L1++L∧Q r L1):=by
 have h:=h (Ho (d::L)) (HT (Acu ..)) (fun k hk=>HT (Acy _ hk))
 refine⟨h.1,fun F W x=>?_⟩
 have hp:=x.pw
 have y:Ok (Ho (d::L)::([]++F)) W:=by
  have:=(Vs.U0 (d:=emp) (L0:=F) (L:=d::L)).2 [] W (by simpa using x.emp)
  simpa using this.tail
 refine(h.2 F W y).mono fun e W' ⟨d',L',a,b,c,r⟩=>?_
 cases e with
 |panicked c=>exact r.elim
 |outgrown=>exact r.elim
 |returned u=>
  obtain⟨rfl,r⟩:=r
  refine⟨d,L'++L,?_,Le.refl d,c,rfl,L',rfl,r⟩
  have:=(Vs.Uw (d:=emp) (L0:=L'++F) hp).2 [] W' (by simpa using a.emp)
  have z:Ok ((d::L)++(L'++F)) W':=by simpa using this.tail
  refine z.perm ?_
  simp only [Aej,Acg]
  refine Acn d ?_
  rw [←Acg,←Acg]
  exact Afb F Aci
section
variable {P:Program}{pan:List PanicEntry→AS}{Qn:Env→AS}{Ls L:List Ac}{ρ:Env}{d:Ac}{s:GS}{t:Nat}{tk:Bool}
theorem A0{n:Nat}{x y:Operand}{b o:Nat}{T:TypeId}{l:List Value}{v:Value} (i:Nat) (l':List Value) (hi:L[i]?=some (bx b T l)) (ex:ev ρ x=.pointer (some ⟨b,o,none⟩)) (ey:ev ρ y=v)
  (hn:v.cells.size=n) (hl:o+n≤l.length) (h1:(v.cells.toList.all (·.oneCell'))=true) (hp:patch l o v.cells.toList=l') (h:gws P pan Qn s Ls ρ d (L.set i (bx b T l'))):
  gws P pan Qn (.op false ⟨none,none,.st n x y⟩ s) Ls ρ d L:=by subst hp;exact BN i hi ex ey hn hl h1 h
theorem Jd{f:FuncId}{args:List Operand}{Q:Value→List Ac→Prop}{vs:List Value} (ea:args.map (ev ρ)=vs) (hc:∀d1,Le d d1→(∀k∈L,Le k d1)→Aw P f vs d1 [] (Ret fun r d' L'=>d'=d1∧Q r L'))
  (h:∀r L',Q r L'→gws P pan Qn s Ls (upd ρ t r) d (L'++L)):gws P pan Qn (.op false ⟨some t,none,.call f args⟩ s) Ls ρ d L:=by
 refine Fa (R:=fun r d' L'=>d'=d∧∃L1,L'=L1++L∧Q r L1) L.length ea (by rw [Aeg];exact Aw.borrow hc) (fun r d' L' _ ⟨h1,L1,h2,h3⟩=>?_)
 subst h1;subst h2
 rw [Afv,Ads];exact h r L1 h3
theorem RM{x y:Operand}{k':IntKind}{a:Nat} (ex:ev ρ x=.int .i64 a) (ey:ev ρ y=.int k' 8) (ha:a≤1000000000000) (h:gws P pan Qn s Ls (upd ρ t (.int .i64 (a*256:Nat))) d L):
  gws P pan Qn (.op tk ⟨some t,none,.bin .shl x y⟩ s) Ls ρ d L:=by
 refine Dd ?_ h
 have h1:min (Int.toNat 8) IntKind.i64.bits=8:=by simp [IntKind.bits]
 rw [ex,ey]
 simp only [C1,h1]
 rw [if_neg (by omega),DG (by omega) (by omega)]
 congr 2
theorem QE{x y:Operand}{a b:Nat} (ex:ev ρ x=.int .i64 (a*256:Nat)) (ey:ev ρ y=.int .i64 b) (ha:a≤1000000000000) (hb:b<256) (h:gws P pan Qn s Ls (upd ρ t (.int .i64 (a*256+b:Nat))) d L):
  gws P pan Qn (.op tk ⟨some t,none,.bin .or x y⟩ s) Ls ρ d L:=by
 refine Dd ?_ h
 have e:(BitVec.ofInt IntKind.i64.bits ((a*256:Nat):Int)|||BitVec.ofInt IntKind.i64.bits ((b:Nat):Int)).toNat=a*256+b:=by
  have h1:=Nat.shiftLeft_add_eq_or_of_lt (i:=8) hb a
  rw [Nat.shiftLeft_eq] at h1
  show((BitVec.ofInt 64 ((a*256:Nat):Int):BitVec 64)|||(BitVec.ofInt 64 ((b:Nat):Int):BitVec 64)).toNat=_
  rw [BitVec.toNat_or,BitVec.ofInt_natCast,BitVec.ofInt_natCast,BitVec.toNat_ofNat,BitVec.toNat_ofNat]
  rw [Afd (by omega),Afd (by omega)]
  exact h1.symm
 rw [ex,ey]
 simp only [C1,e]
 rw [DG (by omega) (by omega)]
 simp
theorem WI{x y:Operand}{a b:Int} (ex:ev ρ x=.int .u8 a) (ey:ev ρ y=.int .u8 b) (h1:0≤a+b) (h2:a+b≤255)
  (h:gws P pan Qn s Ls (upd ρ t (.int .u8 (a+b))) d L):gws P pan Qn (.op tk ⟨some t,none,.bin .add x y⟩ s) Ls ρ d L:=
 Dd (by
  have e:IntKind.u8.wrap (a+b)=a+b:=by simp [IntKind.wrap,IntKind.signed,IntKind.bits];omega
  rw [ex,ey];simp [C1,e]) h
end
theorem As.D7{d d':Ac}{v:Value}{xs:List (List UInt8)}{h:Ac} (o:As 1 RBs d v xs h) (hl:Le d d'):As 1 RBs d' v xs h:=As.mono (R:=RBs) EW o hl
theorem As.Ih{d d':Ac}{v:Value}{xs:List Int}{h:Ac} (o:As 1 Bi d v xs h) (hl:Le d d'):As 1 Bi d' v xs h:=As.mono (R:=Bi) Cb o hl
end
section
section
variable {P:Program}{Q:BZ}{ρ:Env}{d:Ac}{L:List Ac}
theorem BK{a b:DV} (h:xwp P a {Q with n:=xwp P b Q} ρ d L):xwp P (.seq a b) Q ρ d L:=h
theorem x_g{c:Cg} (h:gwp P c Q ρ d L):xwp P (.g c) Q ρ d L:=h
theorem Aa8{c:Operand}{a b:DV} (e:ev ρ c=.bool true) (h:xwp P a Q ρ d L):xwp P (.cond c a b) Q ρ d L:=⟨true,e,fun _=>h,fun q=>by cases q⟩
theorem YQ{c:Operand}{a b:DV} (e:ev ρ c=.bool false) (h:xwp P b Q ρ d L):xwp P (.cond c a b) Q ρ d L:=⟨false,e,fun q=>(by cases q),fun _=>h⟩
theorem Ge{id:Nat}{a:DV} (h:xwp P a {Q with ex:=fun j=>if j=id then Q.n else Q.ex j} ρ d L):xwp P (.block id a) Q ρ d L:=h
theorem OI{c:DV} (l:List (Nat×Value)) (e:BD ρ l) (h:xwp P c Q (IE ρ l) d L):xwp P c Q ρ d L:=by rwa [Il e] at h
end
theorem Fl{P:Program}:∀(c:DV) {Q Q':BZ}{ρ:Env}{d:Ac}{L:List Ac},xwp P c Q ρ d L→(∀ρ d L,Q.n ρ d L→Q'.n ρ d L)→(∀i ρ d L,Q.ex i ρ d L→Q'.ex i ρ d L)→
  (∀ρ d L,Q.ret ρ d L→Q'.ret ρ d L)→Q.pan=Q'.pan→xwp P c Q' ρ d L
 |.g c,_,_,_,_,_,h,h1,h2,h3,h4=>EC c h h1 h2 h3 h4
 |.seq a b,_,_,_,_,_,h,h1,h2,h3,h4=>Fl a h (fun _ _ _ h=>Fl b h h1 h2 h3 h4) h2 h3 h4
 |.cond c a b,_,_,_,_,_,⟨t,e,k1,k2⟩,h1,h2,h3,h4=>⟨t,e,fun q=>Fl a (k1 q) h1 h2 h3 h4,fun q=>Fl b (k2 q) h1 h2 h3 h4⟩
 |.block id a,Q,Q',_,_,_,h,h1,h2,h3,h4=>by
  refine Fl a (Q:={Q with ex:=fun j=>if j=id then Q.n else Q.ex j}) (Q':={Q' with ex:=fun j=>if j=id then Q'.n else Q'.ex j}) h h1 (fun i ρ d L hq=>?_) h3 h4
  simp only at hq⊢
  split at hq
  ·rename_i e;rw [if_pos e];exact h1 _ _ _ hq
  ·rename_i e;rw [if_neg e];exact h2 _ _ _ _ hq
 |.loop a,Q,Q',_,_,_,⟨I,⟨m,hI⟩,round⟩,h1,h2,h3,h4=>
  ⟨I,⟨m,hI⟩,fun m ρ d L hi=>Fl a (Q:={Q with n:=_}) (Q':={Q' with n:=_}) (round m ρ d L hi) (fun _ _ _ h=>h) h2 h3 h4⟩
 |.yl pre dst f args post,Q,Q',_,_,_,h,h1,_,_,h4=>by
  simp only [xwp] at h⊢
  rw [←h4]
  refine De (fun ρ d L hm=>?_) pre h
  obtain⟨l,A,B,R,e1,e2,hy,hR⟩:=hm
  exact⟨l,A,B,R,e1,e2,hy,fun v d2 L2 hl hr=>by rw [←h4];exact De h1 post (hR v d2 L2 hl hr)⟩
 |.snd pre dst ch x post,Q,Q',_,_,_,h,h1,_,_,h4=>by
  simp only [xwp] at h⊢
  rw [←h4]
  refine De (fun ρ d L hm=>?_) pre h
  obtain⟨i,c,cap,buf,s,r,tm,e1,e2,e3,hR⟩:=hm
  exact⟨i,c,cap,buf,s,r,tm,e1,e2,e3,by rw [←h4];exact De h1 post hR⟩
 |.sel pre dst ch z post,Q,Q',_,_,_,h,h1,_,_,h4=>by
  simp only [xwp] at h⊢
  rw [←h4]
  refine De (fun ρ d L hm=>?_) pre h
  obtain⟨i,c,cap,buf,s,r,tm,e1,e2,k1,k2⟩:=hm
  exact⟨i,c,cap,buf,s,r,tm,e1,e2,fun v rest e=>by rw [←h4];exact De h1 post (k1 v rest e),fun e=>by rw [←h4];exact De h1 post (k2 e)⟩
 |.rf f ps as bd,_,_,_,_,_,⟨g,first,cap,e1,hit⟩,h1,h2,h3,h4=>by
  refine⟨g,first,cap,e1,fun l rc k1 k2 k3=>?_⟩
  obtain⟨R,hc,hR⟩:=hit l rc k1 k2 k3
  refine⟨R,hc,fun e d' L' hl hr=>?_⟩
  obtain⟨v,rc',L'',q1,q2,q3,q4⟩:=hR e d' L' hl hr
  refine⟨v,rc',L'',q1,q2,q3,?_⟩
  cases hp:rc'.pending with
  |none=>rw [hp] at q4;exact h1 _ _ _ q4
  |some j=>
   rw [hp] at q4
   cases j with
   |exit id=>exact h2 _ _ _ _ q4
   |ret=>exact h3 _ _ _ q4
   |_=>exact q4
theorem Si{P:Program}{c:DV}{Q:BZ}{N N':Env→AS} (hn:∀ρ d L,N ρ d L→N' ρ d L) {ρ:Env}{d:Ac}{L:List Ac} (h:xwp P c {Q with n:=N} ρ d L):xwp P c {Q with n:=N'} ρ d L:=
 Fl c h hn (fun _ _ _ _ h=>h) (fun _ _ _ h=>h) rfl
section
variable {P:Program}{Q:BZ}{ρ:Env}{d:Ac}{L:List Ac}
theorem Abv{a b:DV} (M:Env→AS) (h1:xwp P a {Q with n:=M} ρ d L) (h2:∀ρ d L,M ρ d L→xwp P b Q ρ d L):xwp P (.seq a b) Q ρ d L:=
 BK (Si h2 h1)
theorem Pd{α:Type}{a:DV} (slots:α→List (Nat×Value)) (inv:α→Ac→List Ac→Prop) (meas:α→Nat) (x0:α) (h0:BD ρ (slots x0)) (i0:inv x0 d L)
  (round:∀x ρ d L,inv x d L→xwp P a {Q with n:=fun ρ d L=>∃x',meas x'<meas x∧BD ρ (slots x')∧inv x' d L} (IE ρ (slots x)) d L):xwp P (.loop a) Q ρ d L:=by
 refine⟨fun m ρ d L=>∃x,meas x=m∧BD ρ (slots x)∧inv x d L,⟨meas x0,x0,rfl,h0,i0⟩,?_⟩
 rintro m ρ d L ⟨x,rfl,h1,h2⟩
 exact OI _ h1 (Si (fun ρ' d' L' ⟨x',k1,k2,k3⟩=>⟨meas x',k1,x',rfl,k2,k3⟩) (round x ρ d L h2))
theorem XW{pre post:GS}{dst:Option Nat}{f:Operand}{args:List Operand} (h:gws P Q.pan (QM P Q dst f args post) pre [] ρ d L):xwp P (.yl pre dst f args post) Q ρ d L:=h
theorem YT{pre post:GS}{dst:Option Nat}{ch x:Operand} (h:gws P Q.pan (NX P Q dst ch x post) pre [] ρ d L):xwp P (.snd pre dst ch x post) Q ρ d L:=h
theorem Abr{pre post:GS}{dst:Option Nat}{ch:Operand}{z:Value} (h:gws P Q.pan (KJ P Q dst ch z post) pre [] ρ d L):xwp P (.sel pre dst ch z post) Q ρ d L:=h
theorem Pu{dst:Option Nat}{f:Operand}{args:List Operand}{post:GS}{l:Nat}{vs:List Value} (A B:List Ac) {R:Value→Ac→List Ac→Prop} (ef:ev ρ f=.func (.yield l) #[] #[]) (hL:L=A++B) (ea:args.map (ev ρ)=vs) (hy:Jk P l vs d A R)
  (k:∀v d2 L2,Le d d2→R v d2 L2→gws P Q.pan Q.n post [] (put ρ dst v) d2 (L2++B)):QM P Q dst f args post ρ d L:=
 ⟨l,A,B,R,ef,hL,ea▸hy,k⟩
theorem VP{dst:Option Nat}{ch x:Operand}{post:GS} (i:Nat) {c cap:Nat}{buf:List Value}{s r:Nat}{tm:Bool}{v:Value} (ec:ev ρ ch=.chan (some c)) (hi:L[i]?=some (sg c (.chan cap buf.toArray false s r tm))) (hroom:buf.length<cap) (ex:ev ρ x=v)
  (k:gws P Q.pan Q.n post [] (put ρ dst undef) d (L.set i (sg c (.chan cap (buf++[v]).toArray false (s+1) r tm)))):NX P Q dst ch x post ρ d L:=
 ⟨i,c,cap,buf,s,r,tm,ec,hi,hroom,ex▸k⟩
theorem VW{dst:Option Nat}{ch:Operand}{z:Value}{post:GS} (i:Nat) {c cap:Nat}{v:Value}{buf:List Value}{s r:Nat}{tm:Bool} (ec:ev ρ ch=.chan (some c)) (hi:L[i]?=some (sg c (.chan cap (v::buf).toArray false s r tm)))
  (k:gws P Q.pan Q.n post [] (put ρ dst (.tuple #[.int .i64 0,.bool true,v])) d (L.set i (sg c (.chan cap buf.toArray false s (r+1) tm)))):KJ P Q dst ch z post ρ d L:=
 ⟨i,c,cap,v::buf,s,r,tm,ec,hi,fun v' rest e=>by cases e;exact k,fun e=>by cases e⟩
theorem V8{dst:Option Nat}{ch:Operand}{z:Value}{post:GS} (i:Nat) {c cap:Nat}{s r:Nat}{tm:Bool} (ec:ev ρ ch=.chan (some c)) (hi:L[i]?=some (sg c (.chan cap #[] false s r tm)))
  (k:gws P Q.pan Q.n post [] (put ρ dst (.tuple #[.int .i64 (-1),.bool false,z])) d L):KJ P Q dst ch z post ρ d L:=
 ⟨i,c,cap,[],s,r,tm,ec,hi,(fun v' rest e=>by cases e),fun _=>k⟩
end
end
section
section
variable {P:Program}{pan:List PanicEntry→AS}{Qn:Env→AS}{Ls L:List Ac}{ρ:Env}{d:Ac}{s:GS}{t:Nat}{tk:Bool}
theorem Ea{z:Value}{x0:Operand}{v0:Value} (e0:ev ρ x0=v0) (c0:v0.cells= #[v0]) (h:∀b T,gws P pan Qn s Ls (upd ρ t (.slice (some ⟨b,0,none⟩) 1 1)) d (bx b T [v0]::L)):
  gws P pan Qn (.op false ⟨some t,none,.bsl 1 1 [z] [(0,x0)]⟩ s) Ls ρ d L:=by
 refine Dn (by omega) ?_ h
 simp [Instr.fill,Bp,Ade,List.range.loop,e0,c0]
theorem Abm{z:Value}{x0 x1:Operand}{v0 v1:Value} (e0:ev ρ x0=v0) (c0:v0.cells= #[v0]) (e1:ev ρ x1=v1) (c1:v1.cells= #[v1]) (h:∀b T,gws P pan Qn s Ls (upd ρ t (.slice (some ⟨b,0,none⟩) 2 2)) d (bx b T [v0,v1]::L)):
  gws P pan Qn (.op false ⟨some t,none,.bsl 2 1 [z] [(0,x0),(1,x1)]⟩ s) Ls ρ d L:=by
 refine Dn (by omega) ?_ h
 simp [Instr.fill,Bp,Ade,List.range.loop,e0,c0,e1,c1]
theorem AaW{x y:Operand}{a b:Int} (ex:ev ρ x=.int .i64 a) (ey:ev ρ y=.int .i64 b) (h1: -9223372036854775808≤a) (h2:a≤9223372036854775807) (h3:2≤b) (h:gws P pan Qn s Ls (upd ρ t (.int .i64 (a.tdiv b))) d L):
  gws P pan Qn (.op tk ⟨some t,none,.bin .quo x y⟩ s) Ls ρ d L:=by
 refine Dd ?_ h
 have h4:¬b=0:=by omega
 have h5:(a.tdiv b).natAbs≤a.natAbs:=by rw [Int.natAbs_tdiv];exact Nat.div_le_self _ _
 have h6:a= -9223372036854775808→(a.tdiv b).natAbs≤9223372036854775807:=by
  intro e
  rw [Int.natAbs_tdiv,e]
  have:2≤b.natAbs:=by omega
  have e2:(-9223372036854775808:Int).natAbs=9223372036854775808:=by decide
  rw [e2]
  have:=Nat.div_le_div_left (a:=9223372036854775808) this (by omega)
  exact Agk this (by decide)
 rw [ex,ey];simp [C1,h4];exact DG (by omega) (by omega)
theorem Oz{x i:Operand}{len sz b o:Nat}{k:IntKind}{j:Int} (m:Nat) (ex:ev ρ x=.pointer (some ⟨b,o,none⟩)) (ei:ev ρ i=.int k j) (hm:j=(m:Int)) (hl:m<len) (h:gws P pan Qn s Ls (upd ρ t (.pointer (some ⟨b,o+m*sz,none⟩))) d L):
  gws P pan Qn (.op tk ⟨some t,none,.idxa len sz x i⟩ s) Ls ρ d L:=by
 subst hm
 exact w_q rfl ⟨b,o,k,m,ex,ei,by omega,by omega,rfl⟩ h
end
theorem Aw.forget{P:Program}{f:FuncId}{args:List Value}{d:Ac}{L:List Ac}{Q:Value→List Ac→Prop} (h:Aw P f args d L (Ret fun r _ L'=>Q r L')):Aw P f args d L (Ret fun r d' L'=>d'=d∧Q r L'):=
 ⟨h.1,fun F W x=>(h.2 F W x).mono fun e W' ⟨d',L',a,b,c,r⟩=>⟨d,L',a.le b,Le.refl d,c,by
  cases e with
  |returned v=>exact⟨rfl,r⟩
  |panicked c=>exact r.elim
  |outgrown=>exact r.elim⟩⟩
theorem CT.of{P:Program}{f:FuncId}{args:List Value}{d:Ac}{v:Value} (h:Aw P f args d [] (Ret fun r _ L'=>r=v∧L'=[])):CT P f args d v:=
 (Aw.forget (Q:=fun r L'=>r=v∧L'=[]) h).mono fun e d' L' _ r=>by
  cases e with
  |returned v=>exact⟨r.2.1,r.1,r.2.2⟩
  |panicked c=>exact r.elim
  |outgrown=>exact r.elim
section
variable {ρ:Env}{d:Ac}{L:List Ac}{t u:Nat}
end
end
section
section
variable {P:Program}{pan:List PanicEntry→AS}{Qn:Env→AS}{Ls L:List Ac}{ρ:Env}{d:Ac}{s:GS}{t:Nat}{tk:Bool}
end
end
section
section
variable {P:Program}{pan:List PanicEntry→AS}{Qn:Env→AS}{Ls L:List Ac}{ρ:Env}{d:Ac}{s:GS}{t:Nat}{tk:Bool}
end
end
end Go.Gk
end
section
namespace Go.Gk
open Go
section
variable {P:Program}{pan:List PanicEntry→AS}{Qn:Env→AS}{Ls L:List Ac}{ρ:Env}{d:Ac}{s:GS}
theorem Pa{α:Type}{sz by_ t:Nat}{R:Ac→List Value→α→Prop}{z:List Value}{x y:Operand}{v w:Value}{xs ys:List α}{h:Ac} (hR:F7 R) (ex:ev ρ x=v) (ho:As sz R d v xs h)
  (ey:ev ρ y=w) (hs:Src sz R d (Ls++(h::L)++(h::L)) w ys) (hsz:0<sz) (hm:xs.length+ys.length≤140737488355328) (hb:(xs.length+ys.length)*by_≤140737488355328)
  (k:∀a c d',Le d d'→RSl sz R d' (.slice a (xs++ys).length c) (xs++ys)→gws P pan Qn s Ls (upd ρ t (.slice a (xs++ys).length c)) d' L):gws P pan Qn (.op false ⟨some t,none,.app sz by_ z x y⟩ s) Ls ρ d (h::L):=by
 obtain⟨cs,h1,h2⟩:=ho
 obtain⟨news,k1,k2,k3⟩:=hs
 have hl:=h1.1
 refine Oh 0 ex rfl h1 ey k1 k2 hsz hm hb (fun v' h' o=>⟨join d h',L,Vs.freeze,?_⟩)
 have hg:As sz R d v' (xs++ys) h':=by
  refine⟨cs++news,by rw [Acl];exact o,fun j hj=>?_⟩
  by_cases e:j<xs.length
  ·rw [FB hl e,Agi e];exact h2 j e
  ·rw [Fi hl (by omega),Agd (by omega)]
   exact k3 _ (by simp at hj;omega)
 have hr:=hg.rsl hR hsz (Le.AI d h') (Le.A9 d h')
 obtain⟨a,c,rfl⟩:=hr.val
 exact k a c _ (Le.AI d h') hr
theorem Aay{α:Type}{sz by_ t0 t1 t2:Nat}{R:Ac→List Value→α→Prop}{z:List Value}{x y:Operand}{vx vy:Value}{xs ys:List α} (hR:F7 R) (hc:Fy R) (hsz:0<sz) (_:(t0==t1)=false)
  (rx:RSl sz R d vx xs) (ry:RSl sz R d vy ys) (ex:∀u,ev (upd ρ t0 u) x=vx) (ey:∀u w,ev (upd (upd ρ t0 u) t1 w) y=vy) (hb:(xs.length+ys.length)*by_≤140737488355328) (hm:xs.length+ys.length≤140737488355328)
  (k:∀v0 v1 a c d',Le d d'→RSl sz R d' (.slice a (xs++ys).length c) (xs++ys)→gws P pan Qn s Ls (upd (upd (upd ρ t0 v0) t1 v1) t2 (.slice a (xs++ys).length c)) d' L):
  gws P pan Qn (.op false ⟨some t0,none,.bsl 0 sz z []⟩ (.op false ⟨some t1,none,.app sz by_ z (.tmp t0) x⟩ (.op false ⟨some t2,none,.app sz by_ z (.tmp t1) y⟩ s))) Ls ρ d L:=by
 have up:∀(ρ:Env) (t:Nat) (v:Value),ev (upd ρ t v) (.tmp t)=v:=fun ρ t v=>by simp [ev,upd]
 refine Dn (cs:=[]) (by simp) (by simp [Instr.fill,Bp]) (fun b T=>?_)
 have hm1:xs.length*by_≤140737488355328:=Agk (Adv _ (by omega)) hb
 refine EP (R:=R) 0 (up _ _ _) rfl (As.KN (R:=R) (sz:=sz)) (ex _) (rx.src hc hsz _) hsz (by simp;omega) (by simpa using hm1) (fun v1 h1 o1=>?_)
 rw [Adt] at o1
 exact Pa (R:=R) hR (up _ _ _) o1 (ey _ _) (ry.src hc hsz _) hsz hm hb (fun a c d' hl hr=>k _ _ a c d' hl hr)
theorem AaR{α:Type}{sz by_ t0 t1:Nat}{R:Ac→List Value→α→Prop}{z:List Value}{x:Operand}{vx:Value}{xs:List α} (_:F7 R) (hc:Fy R) (hsz:0<sz)
  (rx:RSl sz R d vx xs) (ex:∀u,ev (upd ρ t0 u) x=vx) (hb:xs.length*by_≤140737488355328) (hm:xs.length≤140737488355328)
  (k:∀v0 v1 h1,As sz R d v1 xs h1→gws P pan Qn s Ls (upd (upd ρ t0 v0) t1 v1) d (h1::L)):
  gws P pan Qn (.op false ⟨some t0,none,.bsl 0 sz z []⟩ (.op false ⟨some t1,none,.app sz by_ z (.tmp t0) x⟩ s)) Ls ρ d L:=by
 have up:∀(ρ:Env) (t:Nat) (v:Value),ev (upd ρ t v) (.tmp t)=v:=fun ρ t v=>by simp [ev,upd]
 refine Dn (cs:=[]) (by simp) (by simp [Instr.fill,Bp]) (fun b T=>?_)
 refine EP (R:=R) 0 (up _ _ _) rfl (As.KN (R:=R) (sz:=sz)) (ex _) (rx.src hc hsz _) hsz (by simp;omega) (by simpa using hb) (fun v1 h1 o1=>?_)
 rw [Adt] at o1
 exact k _ _ _ o1
end
end Go.Gk
namespace Go.Gk
open Go
section
variable {P:Program}{pan:List PanicEntry→AS}{Qn:Env→AS}{Ls L:List Ac}{ρ:Env}{d:Ac}{s:GS}{t:Nat}{tk:Bool}
theorem Aa0{x y:Operand}{a b:Int} (ex:ev ρ x=.int .i64 a) (ey:ev ρ y=.int .i64 b) (h:∀u,(-9223372036854775808≤a+b→a+b≤9223372036854775807→u=a+b)→gws P pan Qn s Ls (upd ρ t (.int .i64 u)) d L):
  gws P pan Qn (.op tk ⟨some t,none,.bin .add x y⟩ s) Ls ρ d L:=
 Dd (by rw [ex,ey];simp [C1]) (h (IntKind.i64.wrap (a+b)) (fun h1 h2=>DG h1 h2))
end
end Go.Gk
namespace Go.Gk
open Go
theorem CB{l vs:List Value}{o k:Nat} (h:o+vs.length≤l.length):(patch l o vs)[k]?=if o≤k∧k<o+vs.length then vs[k - o]? else l[k]?:=by
 unfold patch
 have hl:(l.take o).length=o:=by rw [Acw];omega
 by_cases h1:k<o
 ·rw [if_neg (by omega),Acg,Aed (by omega),Adu h1]
 by_cases h2:k<o+vs.length
 ·rw [if_pos ⟨by omega,h2⟩,Aed (by rw [Acl];omega),Aeb (by omega),hl]
 ·rw [if_neg (by omega),Aeb (by rw [Acl];omega),Aea,Acl,hl]
  congr 1;omega
theorem Bu{l vs:List Value}{o:Nat} (h:o+vs.length≤l.length):(patch l o vs).length=l.length:=by
 unfold patch;simp only [Acl,Acw,Aco];omega
theorem UL{l vs:List Value}{o n:Nat} (h:o+vs.length≤n) (hn:n≤l.length):(patch l o vs).take n=patch (l.take n) o vs:=by
 refine Afg fun k=>?_
 have hl:(l.take n).length=n:=by rw [Acw];omega
 rw [CB (by omega)]
 by_cases hk:k<n
 ·rw [Adu hk,Adu hk,CB (by omega)]
 ·rw [if_neg (by omega),Adq (by rw [Acw];omega),Adq (by omega)]
theorem Iy{cs:List Value}{i sz k:Nat}:(chunk cs i sz)[k]?=if k<sz then cs[i*sz+k]? else none:=by
 unfold chunk
 by_cases h:k<sz
 ·rw [Adu h,Aea,if_pos h]
 ·rw [if_neg h,Adq (by rw [Acw];omega)]
theorem SP{cs vs:List Value}{i m sz n:Nat} (hl:cs.length=n*sz) (hv:vs.length=sz) (hm:m<n):chunk (patch cs (m*sz) vs) i sz=if i=m then vs else chunk cs i sz:=by
 have h1:m*sz+sz≤n*sz:=by have:=Adv sz (show m+1≤n from hm);rwa [Aer,Agn] at this
 refine Afg fun k=>?_
 rw [Iy]
 by_cases e:i=m
 ·subst e
  rw [if_pos rfl]
  by_cases hk:k<sz
  ·rw [if_pos hk,CB (by omega),if_pos (by omega)]
   congr 1;omega
  ·rw [if_neg hk,Adq (by omega)]
 ·rw [if_neg e,Iy]
  by_cases hk:k<sz
  ·rw [if_pos hk,if_pos hk,CB (by omega),if_neg]
   rintro⟨a,b⟩
   rcases Nat.lt_or_gt_of_ne e with q|q
   ·have:=Adv sz (show i+1≤m from q);rw [Aer,Agn] at this;omega
   ·have:=Adv sz (show m+1≤i from q);rw [Aer,Agn] at this;omega
  ·rw [if_neg hk,if_neg hk]
theorem As.Abt{α:Type}{sz:Nat}{R:Ac→List Value→α→Prop}{d:Ac}{v:Value}{xs:List α}{h:Ac} (_:0<sz) (o:As sz R d v xs h) {m:Nat} (hm:m<xs.length):
  ∃b T l c,v=.slice (some ⟨b,0,none⟩) xs.length c∧h=bx b T l∧m*sz+sz≤l.length∧∀cs' x,cs'.length=sz→R d cs' x→As sz R d v (xs.set m x) (bx b T (patch l (m*sz) cs')):=by
 obtain⟨cs,⟨h1,h2,⟨rfl,h0,rfl⟩|⟨b,T,l,c,rfl,rfl,h3,h4,h5,h6⟩⟩,hr⟩:=o
 ·omega
 ·have hmz:m*sz+sz≤xs.length*sz:=by have:=Adv sz (show m+1≤xs.length from hm);rwa [Aer,Agn] at this
  have hcz:xs.length*sz≤c*sz:=Adv sz h3
  refine⟨b,T,l,c,rfl,rfl,by omega,fun cs' x hl hx=>⟨patch cs (m*sz) cs',?_,fun i hi=>?_⟩⟩
  ·have hp:(patch cs (m*sz) cs').length=cs.length:=Bu (by omega)
   refine⟨by rw [hp,Adg,h1],by rw [Adg];exact h2,.inr ⟨b,T,_,c,by rw [Adg],rfl,by rw [Adg];exact h3,h4,by rw [Bu (by omega)];exact h5,?_⟩⟩
   rw [hp,UL (by omega) (by omega),h6]
  ·rw [SP h1 hl hm]
   rw [Adg] at hi
   by_cases e:i=m
   ·subst e
    rw [if_pos rfl,List.getElem_set_self];exact hx
   ·rw [if_neg e,List.getElem_set_ne (fun q=>e q.symm)];exact hr i hi
end Go.Gk
end
section
namespace Go.Gk
open Go
section
section
variable {P:Program}{pan:List PanicEntry→AS}{Qn:Env→AS}{Ls L:List Ac}{ρ:Env}{d:Ac}{s:GS}{t:Nat}{tk:Bool}
theorem Abl{Q:BZ}{c:Cg} (M:Env→AS) (h:gwp P c {Q with n:=M} ρ d L) (k:∀ρ d L,M ρ d L→Q.n ρ d L):gwp P c Q ρ d L:=
 EC c h k (fun _ _ _ _ h=>h) (fun _ _ _ h=>h) rfl
end
end
section
section
variable {P:Program}{pan:List PanicEntry→AS}{Qn:Env→AS}{Ls L:List Ac}{ρ:Env}{d:Ac}{s:GS}{t:Nat}{tk:Bool}
end
end
section
section
variable {κ ν:Type} (kE:κ→Value) (vE:ν→Value)
def Ek(ms:List (κ×ν×Nat)):List MapEntry:=ms.map fun p=>⟨kE p.1,vE p.2.1,p.2.2⟩
def mp(b:Nat) (ms:List (κ×ν×Nat)) (c:Nat):Ac:=sg b (.map (Ek kE vE ms).toArray c)
end
section
variable {κ ν:Type} [DecidableEq κ]
def mIx(k:κ):List (κ×ν×Nat)→Nat→Option (Nat×ν)
 |[],_=>none
 |p::ms,i=>if k=p.1 then some (i,p.2.1) else mIx k ms (i+1)
def EG(k:κ):List (κ×ν×Nat)→Option ν
 |[]=>none
 |p::ms=>if k=p.1 then some p.2.1 else EG k ms
def GQ(k:κ) (v:ν) (c:Nat):List (κ×ν×Nat)→List (κ×ν×Nat)
 |[]=>[(k,v,c)]
 |p::ms=>if k=p.1 then(p.1,v,p.2.2)::ms else p::GQ k v c ms
def Pr(k:κ) (c:Nat) (ms:List (κ×ν×Nat)):Nat:=if (EG k ms).isSome then c else c+1
def IH(k:κ):List (κ×ν×Nat)→List (κ×ν×Nat)
 |[]=>[]
 |p::ms=>if k=p.1 then ms else p::IH k ms
def Pn(kd:Nat) (kE:κ→Value):Prop:=∀a b,eq1 kd (kE a) (kE b)=some (decide (a=b))
theorem Hl{kd:Nat}{kE:κ→Value}{vE:ν→Value} (hk:Pn kd kE) (k:κ):∀(ms:List (κ×ν×Nat)) (i:Nat),Bo kd (kE k) (Ek kE vE ms) i=some ((mIx k ms i).map fun p=>(p.1,vE p.2))
 |[],i=>rfl
 |p::ms,i=>by
  have ih:=Hl (vE:=vE) hk k ms (i+1)
  have e:eq1 kd (kE k) (kE p.1)=some (decide (k=p.1)):=hk k p.1
  show Bo kd (kE k) (⟨kE p.1,vE p.2.1,p.2.2⟩::Ek kE vE ms) i=_
  rw [Bo,mIx]
  simp only [e]
  by_cases h:k=p.1
  ·simp only [h,decide_true,if_true];rfl
  ·simp only [h,decide_false,if_false];exact ih
theorem OM(k:κ):∀(ms:List (κ×ν×Nat)) (i:Nat),(mIx k ms i).map (·.2)=EG k ms
 |[],_=>rfl
 |p::ms,i=>by
  rw [mIx,EG]
  by_cases h:k=p.1
  ·simp [h]
  ·rw [if_neg h,if_neg h];exact OM k ms (i+1)
theorem X5{kE:κ→Value}{vE:ν→Value} (k:κ) (v:ν) (c:Nat) (ms:List (κ×ν×Nat)):
  upO (Ek kE vE ms) c (kE k) (vE v) ((mIx k ms 0).map fun p=>(p.1,vE p.2))=.map (Ek kE vE (GQ k v c ms)).toArray (Pr k c ms):=by
 have key:∀(ms:List (κ×ν×Nat)) (i:Nat),(∀j u,mIx k ms i=some (j,u)→i≤j∧(Ek kE vE ms).modify (j - i) (fun e:MapEntry=>{e with val:=vE v})=Ek kE vE (GQ k v c ms))∧
   (mIx k ms i=none→Ek kE vE ms++[(⟨kE k,vE v,c⟩:MapEntry)]=Ek kE vE (GQ k v c ms)):=by
  intro ms
  induction ms with
  |nil=>intro i;exact⟨fun j u h=>(by cases h),fun _=>rfl⟩
  |cons p ms ih=>
   intro i
   rw [mIx,GQ]
   by_cases h:k=p.1
   ·rw [if_pos h,if_pos h]
    refine⟨fun j u e=>?_,fun e=>by cases e⟩
    cases e
    refine⟨Ach _,?_⟩
    rw [Afy];simp [Ek]
   ·rw [if_neg h,if_neg h]
    obtain⟨h1,h2⟩:=ih (i+1)
    refine⟨fun j u e=>?_,fun e=>?_⟩
    ·obtain⟨h3,h4⟩:=h1 j u e
     refine⟨by omega,?_⟩
     rw [show j - i=(j - (i+1))+1 by omega]
     simp only [Ek,Afj,List.modify_succ_cons] at h4⊢
     rw [h4]
    ·have:=h2 e
     simp only [Ek,Afj,Aej] at this⊢
     rw [this]
 have hg:=OM k ms 0
 cases hq:mIx k ms 0 with
 |none=>
  rw [hq] at hg
  simp only [Option.map_none,upO,Pr,←hg,Agr,Acj,if_false]
  rw [(key ms 0).2 hq]
 |some p=>
  obtain⟨j,u⟩:=p
  rw [hq] at hg
  simp only [Aeq,upO,Pr,←hg,Option.isSome_some,if_true]
  have:=((key ms 0).1 j u hq).2
  rw [Nat.sub_zero] at this
  rw [this]
theorem Vt{kE:κ→Value}{vE:ν→Value} (k:κ) (c:Nat) (ms:List (κ×ν×Nat)):
  KS (Ek kE vE ms) c ((mIx k ms 0).map fun p=>(p.1,vE p.2))=.map (Ek kE vE (IH k ms)).toArray c:=by
 have key:∀(ms:List (κ×ν×Nat)) (i:Nat),(∀j u,mIx k ms i=some (j,u)→i≤j∧(Ek kE vE ms).eraseIdx (j - i)=Ek kE vE (IH k ms))∧(mIx k ms i=none→IH k ms=ms):=by
  intro ms
  induction ms with
  |nil=>intro i;exact⟨fun j u h=>(by cases h),fun _=>rfl⟩
  |cons p ms ih=>
   intro i
   rw [mIx,IH]
   by_cases h:k=p.1
   ·rw [if_pos h,if_pos h]
    refine⟨fun j u e=>?_,fun e=>by cases e⟩
    cases e
    refine⟨Ach _,?_⟩
    rw [Afy];simp [Ek]
   ·rw [if_neg h,if_neg h]
    obtain⟨h1,h2⟩:=ih (i+1)
    refine⟨fun j u e=>?_,fun e=>by rw [h2 e]⟩
    obtain⟨h3,h4⟩:=h1 j u e
    refine⟨by omega,?_⟩
    rw [show j - i=(j - (i+1))+1 by omega]
    simp only [Ek,Afj,List.eraseIdx_cons_succ] at h4⊢
    rw [h4]
 cases hq:mIx k ms 0 with
 |none=>simp only [Option.map_none,KS];rw [(key ms 0).2 hq]
 |some p=>
  obtain⟨j,u⟩:=p
  have:=((key ms 0).1 j u hq).2
  rw [Nat.sub_zero] at this
  simp only [Aeq,KS,this]
theorem Aaq:Pn 0 (fun i:Int=>Value.int .i64 i):=fun a b=>by
 show some (a==b)=_
 by_cases e:a=b<;>simp [e]
end
section
variable {κ ν:Type}{kE:κ→Value}{vE:ν→Value}
variable {P:Program}{pan:List PanicEntry→AS}{Qn:Env→AS}{Ls L:List Ac}{ρ:Env}{d:Ac}{s:GS}{t:Nat}
theorem Abe(kE:κ→Value) (vE:ν→Value) (h:∀b,gws P pan Qn s Ls (upd ρ t (.map (some b))) d (mp kE vE b [] 0::L)):gws P pan Qn (.op false ⟨some t,none,.mop .mk⟩ s) Ls ρ d L:=
 ⟨d,L,Vs.refl d L,fun b=>⟨_,_,Vs.refl _ _,h b⟩⟩
theorem YD [DecidableEq κ] {kd:Nat}{x y z:Operand}{b c:Nat}{ms:List (κ×ν×Nat)}{k:κ}{v:ν} (hk:Pn kd kE) (i:Nat) (hi:L[i]?=some (mp kE vE b ms c)) (ex:ev ρ x=.map (some b)) (ey:ev ρ y=kE k) (ez:ev ρ z=vE v)
  (h:gws P pan Qn s Ls ρ d (L.set i (mp kE vE b (GQ k v c ms) (Pr k c ms)))):gws P pan Qn (.op false ⟨none,none,.mop (.up kd x y z)⟩ s) Ls ρ d L:=
 ⟨d,L,Vs.refl d L,i,b,Ek kE vE ms,c,_,hi,ex,by rw [ey];exact Hl hk k ms 0,_,_,Vs.refl _ _,by rw [ey,ez,X5];exact h⟩
theorem Abq [DecidableEq κ] {kd:Nat}{x y:Operand}{b c:Nat}{ms:List (κ×ν×Nat)}{k:κ}{t:Option Nat} (hk:Pn kd kE) (i:Nat) (hi:L[i]?=some (mp kE vE b ms c)) (ex:ev ρ x=.map (some b)) (ey:ev ρ y=kE k)
  (h:gws P pan Qn s Ls (put ρ t (.tuple #[])) d (L.set i (mp kE vE b (IH k ms) c))):gws P pan Qn (.op false ⟨t,none,.mop (.del kd x y)⟩ s) Ls ρ d L:=
 ⟨d,L,Vs.refl d L,i,b,Ek kE vE ms,c,_,hi,ex,by rw [ey];exact Hl hk k ms 0,_,_,Vs.refl _ _,by rw [Vt];exact h⟩
theorem AbE{x:Operand}{b c:Nat}{ms:List (κ×ν×Nat)}{t:Option Nat} (i:Nat) (hi:L[i]?=some (mp kE vE b ms c)) (ex:ev ρ x=.map (some b))
  (h:gws P pan Qn s Ls (put ρ t (.tuple #[])) d (L.set i (mp kE vE b [] c))):gws P pan Qn (.op false ⟨t,none,.mop (.clr x)⟩ s) Ls ρ d L:=
 ⟨d,L,Vs.refl d L,i,b,(Ek kE vE ms).toArray,c,hi,ex,_,_,Vs.refl _ _,h⟩
theorem Yr{b c i:Nat}{ms:List (κ×ν×Nat)} (hi:(Ls++L)[i]?=some (mp kE vE b ms c)):Hh d ((Ls++L)++L) (.map (some b)) (Ek kE vE ms):=
 .inr ⟨b,c,rfl,_,.inr (Adh _ (Aew hi)),Cy _ _⟩
theorem YJ [DecidableEq κ] {kd:Nat}{z:Value}{x y:Operand}{b c:Nat}{ms:List (κ×ν×Nat)}{k:κ}{v:ν} (hk:Pn kd kE) (i:Nat) (hi:(Ls++L)[i]?=some (mp kE vE b ms c)) (ex:ev ρ x=.map (some b)) (ey:ev ρ y=kE k) (hg:EG k ms=some v)
  (h:gws P pan Qn s Ls (upd ρ t (vE v)) d L):gws P pan Qn (.op false ⟨some t,none,.mop (.lk kd z false x y)⟩ s) Ls ρ d L:=by
 refine⟨d,L,Vs.refl d L,Ek kE vE ms,_,by rw [ex];exact Yr hi,by rw [ey];exact Hl hk k ms 0,_,_,Vs.refl _ _,?_⟩
 have:=OM k ms 0
 rw [hg] at this
 cases hq:mIx k ms 0 with
 |none=>rw [hq] at this;cases this
 |some p=>rw [hq] at this;simp at this;subst this;exact h
end
end
end Go.Gk
end
section
namespace Go.Gk
open Go
def CQ:List Value:=Acr 256 (.int .u8 0)
theorem Dh:CQ.length=256:=Adn
theorem QS:∀(cs:List Value) (k off:Nat) (a:Array Value),off+k+cs.length≤a.size→(cs.zipIdx k).foldl (fun(a:Array Value) (p:Value×Nat)=>a.setIfInBounds (off+p.2) p.1) a=(patch a.toList (off+k) cs).toArray
 |[],k,off,a,h=>by simp [patch]
 |c::cs,k,off,a,h=>by
  simp only [Acs] at h
  rw [List.zipIdx_cons,Ags,QS cs (k+1) off _ (by simp;omega)]
  congr 1
  have h1:off+k<a.toList.length:=by simp;omega
  simp only [Array.toList_setIfInBounds]
  apply Afg
  intro i
  rw [CB (by simp;omega),CB (by simp;omega)]
  simp only [Acs]
  by_cases e:i=off+k
  ·subst e
   rw [if_neg (by omega),if_pos ⟨by omega,by omega⟩,Afy,List.getElem?_set_self h1]
   rfl
  ·by_cases e2:off+(k+1)≤i∧i<off+(k+1)+cs.length
   ·rw [if_pos e2,if_pos ⟨by omega,by omega⟩,show i - (off+k)=(i - (off+(k+1)))+1 by omega,Agm]
   ·rw [if_neg e2,if_neg (by omega),List.getElem?_set_ne (by omega)]
theorem Lo{place:Nat→Option (Nat×Nat)}{a:List Value}{i off sz:Nat}{v:Value}{ps:List (Nat×Value)} (hp:place i=some (off,sz)) (hs:v.cells.size=sz) (ho:off+sz≤a.length):
  Instr.fill place a.toArray ((i,v)::ps)=Instr.fill place (patch a off v.cells.toList).toArray ps:=by
 rw [Instr.fill]
 simp only [hp]
 rw [if_neg (by simp [hs];omega)]
 congr 1
 have:=QS v.cells.toList 0 off a.toArray (by simp [hs];omega)
 rw [Nat.add_zero] at this
 have e:v.cells.zipIdx.foldl (fun cs (c,j)=>cs.setIfInBounds (off+j) c) a.toArray=(v.cells.toList.zipIdx 0).foldl (fun(a:Array Value) (p:Value×Nat)=>a.setIfInBounds (off+p.2) p.1) a.toArray:=by
  rw [←Array.foldl_toList,Array.toList_zipIdx]
 exact e.trans this
theorem P6{l cs:List Value} (h:l.length=cs.length):patch l 0 cs=cs:=by simp [patch,h]
section
variable {P:Program}{pan:List PanicEntry→AS}{Qn:Env→AS}{Ls L:List Ac}{ρ:Env}{d:Ac}{s:GS}{t:Nat}{tk:Bool}
theorem BV{l:List Value} (h:∀b T,gws P pan Qn s Ls (upd ρ t (.pointer (some ⟨b,0,none⟩))) d (bx b T l::L)):
  gws P pan Qn (.op false ⟨some t,none,.alo (.agg l.toArray)⟩ s) Ls ρ d L:=DI h
theorem JG{n:Nat}{x y:Operand}{b:Nat}{T:TypeId}{l cs:List Value} (i:Nat) (hi:L[i]?=some (bx b T l)) (ex:ev ρ x=.pointer (some ⟨b,0,none⟩)) (ey:ev ρ y=.agg cs.toArray) (hn:cs.length=n) (hl:l.length=n) (h1:(cs.all (·.oneCell'))=true)
  (h:gws P pan Qn s Ls ρ d (L.set i (bx b T cs))):gws P pan Qn (.op false ⟨none,none,.st n x y⟩ s) Ls ρ d L:=
 BN (v:=.agg cs.toArray) i hi ex ey (by simpa [Value.cells] using hn) (by omega) (by simpa [Value.cells] using h1) (by
  have:patch l 0 (Value.agg cs.toArray).cells.toList=cs:=by simp only [Value.cells];exact P6 (by omega)
  rw [this];exact h)
theorem Bq{n:Nat}{x y:Operand}{b o:Nat}{T:TypeId}{l cs:List Value} (i:Nat) (hi:L[i]?=some (bx b T l)) (ex:ev ρ x=.pointer (some ⟨b,o,none⟩)) (ey:ev ρ y=.agg cs.toArray) (hn:cs.length=n) (hl:o+n≤l.length) (h1:(cs.all (·.oneCell'))=true)
  (h:gws P pan Qn s Ls ρ d (L.set i (bx b T (patch l o cs)))):gws P pan Qn (.op false ⟨none,none,.st n x y⟩ s) Ls ρ d L:=
 BN (v:=.agg cs.toArray) i hi ex ey (by simpa [Value.cells] using hn) hl (by simpa [Value.cells] using h1) h
theorem JX{x:Operand}{n b o:Nat}{T:TypeId}{l:List Value} (cs:List Value) (i:Nat) (e:ev ρ x=.pointer (some ⟨b,o,none⟩)) (hi:(lk tk Ls L)[i]?=some (bx b T l)) (hn:cs.length=n) (hc:∀j u,cs[j]?=some u→l[o+j]?=some u)
  (h:gws P pan Qn s Ls (upd ρ t (.agg cs.toArray)) d L):gws P pan Qn (.op tk ⟨some t,none,.ld (some n) x⟩ s) Ls ρ d L:=
 w_q rfl ⟨b,o,cs,e,hn,fun j u hu=>Aj i hi (hc j u hu),rfl⟩ h
theorem Bx{x i:Operand}{sz b n c:Nat}{k:IntKind}{j:Int} (m:Nat) (ex:ev ρ x=.slice (some ⟨b,0,none⟩) n c) (ei:ev ρ i=.int k j) (hm:j=(m:Int)) (hl:m<n)
  (h:gws P pan Qn s Ls (upd ρ t (.pointer (some ⟨b,m*sz,none⟩))) d L):gws P pan Qn (.op tk ⟨some t,none,.idx sz x i⟩ s) Ls ρ d L:=
 BA (o:=0) m ex ei hm hl (SAd.some n b 0) (by rw [Aeh];exact h)
theorem QO{sz:Nat}{z cs:List Value}{x:Operand} (ex:ev ρ x=.agg cs.toArray) (hz:z.length=sz) (hc:cs.length=sz) (hs:sz≤16777216) (h:∀b T,gws P pan Qn s Ls (upd ρ t (.slice (some ⟨b,0,none⟩) 1 1)) d (bx b T cs::L)):
  gws P pan Qn (.op false ⟨some t,none,.bsl 1 sz z [(0,x)]⟩ s) Ls ρ d L:=by
 refine Dn (cs:=cs) (by omega) ?_ h
 simp only [Afj,List.map_nil,ex]
 rw [Lo (off:=0) (sz:=sz) (by simp) (by simpa [Value.cells] using hc) (by simp [Bp])]
 rw [Instr.fill,show(Value.agg cs.toArray).cells.toList=cs from rfl,P6 (by simp [Bp,hc])]
theorem Abk{x y:Operand}{k:IntKind}{a:Int}{cs:List Value} (ex:ev ρ x=.int k a) (ey:ev ρ y=.agg cs.toArray) (hc:cs.length=256) (h:gws P pan Qn s Ls (upd ρ t (.agg (Value.int k a::cs).toArray)) d L):
  gws P pan Qn (.op tk ⟨some t,none,.bld [(0,1),(1,256)] (Value.int .i64 0::CQ) [(0,x),(1,y)]⟩ s) Ls ρ d L:=by
 refine BI ?_ h
 simp only [Afj,List.map_nil,ex,ey]
 have e0:patch (Value.int .i64 0::CQ) 0 (Value.int k a).cells.toList=Value.int k a::CQ:=rfl
 have e2:patch (Value.int k a::CQ) 1 (Value.agg cs.toArray).cells.toList=Value.int k a::cs:=by
  show List.take 1 (Value.int k a::CQ)++cs++List.drop (1+cs.length) (Value.int k a::CQ)=_
  rw [Aex (by rw [Acs,Dh];omega),Ads]
  rfl
 rw [Lo (off:=0) (sz:=1) rfl rfl (by rw [Acs];omega),e0,Lo (off:=1) (sz:=256) rfl (by simpa only [Value.cells,List.size_toArray] using hc) (by rw [Acs,Dh];omega),e2]
 rfl
theorem Aap{x:Operand}{n t1 t2:Nat}{v:Value}{l:List UInt8} (tk2:Bool) (ex:ev ρ x=v) (hr:AM d v l) (hl:l.length=n) (hn:n≠0) (k:∀p,gws P pan Qn s Ls (upd (upd ρ t1 p) t2 (.agg (l.map Az).toArray)) d L):
  gws P pan Qn (.op tk ⟨some t1,none,.s2a n x⟩ (.op tk2 ⟨some t2,none,.ld (some n) (.tmp t1)⟩ s)) Ls ρ d L:=by
 obtain⟨a,c,b,o,rfl,h2,h3,h4,h5,h6,h7,h8⟩:=hr
 have ha:=h2 (by omega)
 subst ha
 refine w_q (v:=.pointer (some ⟨b,o,none⟩)) rfl ⟨_,_,_,ex,by omega,rfl⟩ ?_
 refine w_q rfl ⟨b,o,l.map Az,by simp [ev,upd],by simpa using hl,fun i u hu=>?_,rfl⟩ (k _)
 rw [Aep] at hu
 cases hi:l[i]? with
 |none=>rw [hi] at hu;cases hu
 |some w=>
  rw [hi] at hu;cases hu
  obtain⟨hi',rfl⟩:=Acp.1 hi
  obtain⟨cs,k1,k2,k3⟩:=h8 i hi'
  have k3:cs=[Az l[i]]:=k3
  subst k3
  rw [Aen] at k2
  exact BF k2.one
end
theorem As.at{α:Type}{sz:Nat}{R:Ac→List Value→α→Prop}{d:Ac}{v:Value}{xs:List α}{h:Ac} (hsz:0<sz) (o:As sz R d v xs h) {m:Nat} (hm:m<xs.length):
  ∃b T l c cs,v=.slice (some ⟨b,0,none⟩) xs.length c∧h=bx b T l∧cs.length=sz∧(∀j u,cs[j]?=some u→l[m*sz+j]?=some u)∧m*sz+sz≤l.length∧R d cs xs[m]∧
   ∀cs' x,cs'.length=sz→R d cs' x→As sz R d v (xs.set m x) (bx b T (patch l (m*sz) cs')):=by
 obtain⟨b,T,l,c,e1,e2,e3,e4⟩:=o.Abt hsz hm
 obtain⟨cs,⟨h1,h2,⟨q1,h0,q2⟩|⟨b',T',l',c',q1,q2,h3,h4,h5,h6⟩⟩,hr⟩:=o
 ·omega
 ·have hmz:m*sz+sz≤xs.length*sz:=by have:=Adv sz (show m+1≤xs.length from hm);rwa [Aer,Agn] at this
  have hbl:l'.toArray=l.toArray∧b'=b:=by
   rw [e2] at q2
   have:=(congrFun (congrFun q2 b) (.cells l.toArray T (0,0))).mp (Cy _ _)
   obtain⟨z1,z2⟩:=GR this
   injection z2 with z3
   exact⟨z3.symm,z1.symm⟩
  have hl':l'=l:=by simpa using hbl.1
  subst hl'
  refine⟨b,T,l',c,chunk cs m sz,e1,e2,?_,fun j u hu=>?_,e3,hr m hm,e4⟩
  ·exact Is h1 hm
  ·rw [Iy] at hu
   split at hu
   ·rename_i hj
    rw [←h6,Aek] at hu
    split at hu
    ·exact hu
    ·cases hu
   ·cases hu
theorem As.zero{α:Type}{sz:Nat}{R:Ac→List Value→α→Prop}{d:Ac}{b n:Nat}{T:TypeId}{z:List Value}{x:α} (hz:z.length=sz) (_:0<sz) (hx:R d z x) (hn:n≤140737488355328):
  As sz R d (.slice (some ⟨b,0,none⟩) n n) (Acr n x) (bx b T (Bp z (n*sz))):=by
 refine As.lit (by simp) (by simp [Bp]) (by simpa using hn) (fun i hi=>?_)
 have hin:i<n:=by simpa using hi
 have:chunk (Bp z (n*sz)) i sz=z:=by
  refine Afg fun k=>?_
  rw [Iy]
  by_cases hk:k<sz
  ·have h1:(i+1)*sz≤n*sz:=Adv sz hin
   rw [Aer,Agn] at h1
   rw [if_pos hk,Bp,Aep,List.getElem?_range (by omega),Aeq,hz,show i*sz+k=k+sz*i by rw [Nat.mul_comm];omega,Nat.add_mul_mod_self_left,Afd hk]
   rw [Acf,Ace (by omega)]
   simp
  ·rw [if_neg hk,Adq (by omega)]
 rw [this]
 simpa using hx
theorem Hi{l cs:List Value}{o j:Nat}{x:Value} (hc:∀i u,cs[i]?=some u→l[o+i]?=some u) (hj:j<cs.length) (hl:o+cs.length≤l.length):patch l (o+j) [x]=patch l o (cs.set j x):=by
 refine Afg fun k=>?_
 rw [CB (by simp;omega),CB (by simp;omega)]
 simp only [Acs,Ael,Adg]
 by_cases h1:o≤k∧k<o+cs.length
 ·rw [if_pos h1]
  by_cases h2:k=o+j
  ·subst h2
   rw [if_pos (by omega),Afy,show o+j - o=j by omega,List.getElem?_set_self hj];rfl
  ·rw [if_neg (by omega),List.getElem?_set_ne (by omega)]
   have:=hc (k - o) cs[k - o] (Ace (by omega))
   rw [show o+(k - o)=k by omega] at this
   rw [this,Ace (by omega)]
 ·rw [if_neg h1,if_neg (by omega)]
theorem Aw.reorder{P:Program}{f:FuncId}{args:List Value}{d:Ac}{L L1:List Ac}{R:Ending→Ac→List Ac→Prop} (p:L.Perm L1) (h:Aw P f args d L1 R):Aw P f args d L R:=Aw.vs (Vs.perm p) h
end Go.Gk
namespace Go.Gk
open Go
def CW(P:Program) (f:FuncId) (args:List Value) (d:Ac) (L:List Ac) (v:Value):Prop:=Aw P f args d L (Ret fun r d' L'=>r=v∧d'=d∧L'=L)
section
variable {P:Program}{pan:List PanicEntry→AS}{Qn:Env→AS}{Ls L:List Ac}{ρ:Env}{d:Ac}{s:GS}{t:Nat}
theorem CM{f:FuncId}{args:List Operand}{vs:List Value}{v:Value}{A B:List Ac} (hL:L=A++B) (ea:args.map (ev ρ)=vs) (hc:CW P f vs d A v) (h:gws P pan Qn s Ls (upd ρ t v) d L):
  gws P pan Qn (.op false ⟨some t,none,.call f args⟩ s) Ls ρ d L:=
 DD hL ea hc (fun r d' L' _ ⟨h1,h2,h3⟩=>by subst h1;subst h2;subst h3;rw [←hL];exact h)
theorem OR{f:FuncId}{args:List Operand}{R:Value→Ac→List Ac→Prop}{vs:List Value}{A B:List Ac} (hL:L=A++B) (ea:args.map (ev ρ)=vs) (hc:Aw P f vs d A (Ret R))
  (h:∀v d' L',Le d d'→R v d' L'→gws P pan Qn s Ls (upd ρ t v) d' (L'++B)):gws P pan Qn (.op false ⟨some t,none,.call f args⟩ s) Ls ρ d L:=DD hL ea hc h
theorem JI{v:Value}{L1:List Ac} (e:ρ t=v) (hs:L1.Sublist L):CA [.tmp t] (Ret fun r d' L'=>r=v∧d'=d∧L'=L1) ρ d L:=BG e hs ⟨rfl,rfl,rfl⟩
theorem YI{u:Nat}{v w:Value}{L1:List Ac} (e:ρ t=v) (e':ρ u=w) (hs:L1.Sublist L):CA [.tmp t,.tmp u] (Ret fun r d' L'=>r=.tuple #[v,w]∧d'=d∧L'=L1) ρ d L:=CF e e' hs ⟨rfl,rfl,rfl⟩
end
end Go.Gk
namespace Go.Gk
open Go
theorem AaC{P:Program}{Q:BZ}{ρ:Env}{d:Ac}{L:List Ac}{f:Operand}{ps:List Nat}{as bd:Cg}{g:FuncId}{first cap:Array Value} (ef:ev ρ f=.func (.func g) first cap)
  (h:∀l rc,Qv P ρ ps as bd rc→rc.state=.ready→rc.pending=none→Aw P g (first.toList++[.func (.yield l) #[] #[]]++cap.toList) d (sg l (.loop rc)::L)
   (Ret fun _ d' L'=>∃rc' L'',L'=sg l (.loop rc')::L''∧rc'.state≠.busy∧(match rc'.pending with|none=>Q.n ρ d' L''|some (.exit id)=>Q.ex id ρ d' L''|some .ret=>Q.ret ρ d' L''|_=>False))):xwp P (.rf f ps as bd) Q ρ d L:=
 ⟨g,first,cap,ef,fun l rc h1 h2 h3=>⟨_,h l rc h1 h2 h3,fun e d' L' _ hr=>by
  cases e with
  |returned v=>obtain⟨rc',L'',k1,k2,k3⟩:=hr;exact⟨v,rc',L'',rfl,k1,k2,k3⟩
  |panicked c=>exact hr.elim
  |outgrown=>exact hr.elim⟩⟩
theorem Tx{rc:Loop} (h1:rc.state=.ready) (h2:rc.pending=none):{rc with state:=.ready,pending:=none}=rc:=by
 cases rc;simp only at h1 h2;subst h1;subst h2;rfl
end Go.Gk
namespace Go.Gk
open Go
section
variable {P:Program}{pan:List PanicEntry→AS}{Qn:Env→AS}{Ls L:List Ac}{ρ:Env}{d:Ac}{s:GS}{t:Nat}
theorem Pp{f:FuncId}{args:List Operand}{R:Value→Ac→List Ac→Prop}{vs:List Value}{A B:List Ac} (hp:L.Perm (A++B)) (ea:args.map (ev ρ)=vs) (hc:Aw P f vs d A (Ret R))
  (h:∀v d' L',Le d d'→R v d' L'→∃d2 L2,Vs d' (L'++B) d2 L2∧gws P pan Qn s Ls (upd ρ t v) d2 L2):gws P pan Qn (.op false ⟨some t,none,.call f args⟩ s) Ls ρ d L:=by
 refine B9 d (A++B) (Vs.perm hp) ⟨d,A++B,Vs.refl d _,.inl ⟨A,B,Ret R,rfl,by rw [ea];exact hc,fun e d' L' hl hr=>?_⟩⟩
 cases e with
 |returned v=>exact h v d' L' hl hr
 |panicked c=>exact hr.elim
 |outgrown=>exact hr
theorem CU{f:FuncId}{args:List Operand}{R:Value→Ac→List Ac→Prop}{vs:List Value}{A B:List Ac} (hc:Aw P f vs d A (Ret R)) (hp:L.Perm (A++B)) (ea:args.map (ev ρ)=vs)
  (h:∀v d' L',Le d d'→R v d' L'→∃d2 L2,Vs d' (L'++B) d2 L2∧gws P pan Qn s Ls (upd ρ t v) d2 L2):gws P pan Qn (.op false ⟨some t,none,.call f args⟩ s) Ls ρ d L:=Pp hp ea hc h
theorem CP{f:FuncId}{args:List Operand}{R:Value→Ac→List Ac→Prop}{vs:List Value} (hc:Aw P f vs d L (Ret R)) (ea:args.map (ev ρ)=vs)
  (h:∀v d' L',Le d d'→R v d' L'→gws P pan Qn s Ls (upd ρ t v) d' L'):gws P pan Qn (.op false ⟨some t,none,.call f args⟩ s) Ls ρ d L:=
 DD (B:=[]) (Ads _).symm ea hc (fun v d' L' hl hr=>by rw [Ads];exact h v d' L' hl hr)
theorem LX{f:FuncId}{args:List Operand}{vs:List Value}{v:Value}{A B:List Ac} (hp:L.Perm (A++B)) (ea:args.map (ev ρ)=vs) (hc:CW P f vs d A v) (h:gws P pan Qn s Ls (upd ρ t v) d L):
  gws P pan Qn (.op false ⟨some t,none,.call f args⟩ s) Ls ρ d L:=
 Pp hp ea hc (fun r d' L' _ ⟨h1,h2,h3⟩=>by subst h1;subst h2;subst h3;exact⟨d',L,Vs.perm hp.symm,h⟩)
end
theorem R6{l cs:List Value}{o j:Nat}{u:Value} (hl:o+cs.length≤l.length) (hu:cs[j]?=some u):(patch l o cs)[o+j]?=some u:=by
 have:=(Acp.1 hu).1
 rw [CB hl,if_pos (by omega),show o+j - o=j by omega,hu]
theorem SY{l cs ds:List Value}{o:Nat} (hl:o+cs.length≤l.length) (he:ds.length=cs.length):patch (patch l o cs) o ds=patch l o ds:=by
 refine Afg fun k=>?_
 rw [CB (l:=patch l o cs) (by rw [Bu hl];omega),CB (l:=l) (vs:=cs) hl,CB (l:=l) (vs:=ds) (by omega)]
 by_cases h:o≤k∧k<o+ds.length
 ·rw [if_pos h,if_pos h]
 ·rw [if_neg h,if_neg h,if_neg (by omega)]
theorem Ur{l cs:List Value}{o j:Nat}{x:Value} (hj:j<cs.length) (hl:o+cs.length≤l.length):patch (patch l o cs) (o+j) [x]=patch l o (cs.set j x):=by
 rw [Hi (cs:=cs) (fun i u hu=>R6 hl hu) hj (by rw [Bu hl];exact hl),SY hl (by simp)]
end Go.Gk
namespace Go.Gk
open Go
section
variable {P:Program}{pan:List PanicEntry→AS}{Qn:Env→AS}{Ls L:List Ac}{ρ:Env}{d:Ac}{s:GS}{t:Nat}
theorem YW{by_:Nat}{x:Operand}{k:IntKind}{n:Nat} (ex:ev ρ x=.int k (n:Nat)) (h1:by_*n+112≤281474976710656) (h2:n<9223372036854775808)
  (h:∀b,gws P pan Qn s Ls (upd ρ t (.chan (some b))) d (sg b (.chan n #[] false 0 0 false)::L)):gws P pan Qn (.op false ⟨some t,none,.mop (.mkc by_ x)⟩ s) Ls ρ d L:=
 ⟨d,L,Vs.refl d L,by simp only [gop,gi,mi];exact⟨k,n,ex,h1,h2,fun b=>⟨_,_,Vs.refl _ _,h b⟩⟩⟩
end
end Go.Gk
namespace Go.Gk
open Go
section
variable {P:Program}{pan:List PanicEntry→AS}{Qn:Env→AS}{Ls L:List Ac}{ρ:Env}{d:Ac}{s:GS}{t:Nat}
end
end Go.Gk
namespace Go.Gk
open Go
section
variable {P:Program}{pan:List PanicEntry→AS}{Qn:Env→AS}{Ls L:List Ac}{ρ:Env}{d:Ac}{s:GS}{t:Nat}{tk:Bool}
theorem AaX{neg:Bool}{x y:Operand}{a:Option Addr} (ex:ev ρ x=.pointer a) (ey:ev ρ y=.pointer a) (h:gws P pan Qn s Ls (upd ρ t (.bool (!neg))) d L):
  gws P pan Qn (.op tk ⟨some t,none,.eqp neg x y⟩ s) Ls ρ d L:=w_q rfl ⟨a,a,ex,ey,by cases a;exact .inl rfl;exact .inr (.inr rfl),by cases neg<;>simp⟩ h
theorem AaS{neg:Bool}{x y:Operand}{b:Nat} (ex:ev ρ x=.map (some b)) (ey:ev ρ y=.map none) (h:gws P pan Qn s Ls (upd ρ t (.bool neg)) d L):
  gws P pan Qn (.op tk ⟨some t,none,.eqm neg x y⟩ s) Ls ρ d L:=w_q rfl ⟨some b,ex,ey,by cases neg<;>rfl⟩ h
theorem Abh{T:TypeId}{x:Operand}{v:Value} (ex:ev ρ x=.iface T v) (h:gws P pan Qn s Ls (upd ρ t v) d L):
  gws P pan Qn (.op tk ⟨some t,none,.tas T x⟩ s) Ls ρ d L:=w_q rfl ex h
theorem Aby{x:Operand}{T:TypeId}{b c:Nat}{es:Array MapEntry} (ex:ev ρ x=.iface T (.map (some b))) (hm:HO d (Ls++L++L) b (.map es c)) (h:∀q,gws P pan Qn s Ls (upd ρ t (.iface T (.map (some q)))) d (sg q (.map es c)::L)):
  gws P pan Qn (.op false ⟨some t,none,.mop (.cln x)⟩ s) Ls ρ d L:=
 ⟨d,L,Vs.refl d L,by simp only [gop,gi,mi];exact⟨T,b,es,c,ex,hm,fun q=>⟨_,_,Vs.refl _ _,h q⟩⟩⟩
end
end Go.Gk
namespace Go.Gk
open Go
theorem HF{P:Program}{pan:List PanicEntry→AS}{Qn:Env→AS}{Ls L:List Ac}{ρ:Env}{d:Ac} (h:∃d1 L1,Vs d (Ls++L) d1 L1∧Qn ρ d1 L1):gws P pan Qn .done Ls ρ d L:=h
end Go.Gk
end
section
namespace Go.Gk.Dev
open Go Go.Gk
attribute [local irreducible] gwp gws xwp
abbrev Sec:=List UInt8
structure Et where
 syn:List Sec
 opn:List (Nat×Sec)
def Rx(_:Ac) (cs:List Value) (x:Sec):Prop:=cs=x.map Az∧x.length=256
def RWr(_:Ac) (cs:List Value) (x:Nat×Sec):Prop:=cs=.int .i64 x.1::x.2.map Az∧x.2.length=256
theorem XC:F7 Rx:=fun _ h=>h
theorem Zl:F7 RWr:=fun _ h=>h
theorem RN:Fy RWr:=fun _ _ _ h=>by obtain⟨rfl,_⟩:=h;rw [Agy,CC];rfl
def IF:Sec:=Acr 256 0
theorem Aav{d:Ac}:Rx d CQ IF:=⟨by rw [IF,List.map_replicate];rfl,Adn⟩
def FG(k:Nat):List (Nat×Sec)→Option Sec
 |[]=>none
 |w::l=>match FG k l with|some b=>some b|none=>if w.1=k then some w.2 else none
def Et.cur(D:Et) (k:Nat):Sec:=(FG k D.opn).getD (D.syn.getD k [])
def synced(l:List (Nat×Sec)) (s:List Sec):List Sec:=l.foldl (fun s w=>s.set w.1 w.2) s
theorem Ez(l:List (Nat×Sec)):∀s,(synced l s).length=s.length:=by
 induction l with
 |nil=>exact fun _=>rfl
 |cons w l ih=>intro s;rw [synced,Ags];exact(ih _).trans (Adg ..)
theorem IJ(l:List (Nat×Sec)) (w:Nat×Sec) (s:List Sec):synced (l++[w]) s=(synced l s).set w.1 w.2:=by simp [synced]
def Dv(d:Ac) (D:Et) (v:Value) (L:List Ac):Prop:=
 ∃b T vs vo r hs ho,v=.pointer (some ⟨b,0,none⟩)∧L=[bx b T [vs,vo,.int .i64 r,.int .i64 0],hs,ho]∧As 256 Rx d vs D.syn hs∧As 257 RWr d vo D.opn ho∧(∀w∈D.opn,w.1<D.syn.length)∧D.syn.length≤8192
theorem Dv.mono{d d':Ac}{D:Et}{v:Value}{L:List Ac} (h:Dv d D v L) (hl:Le d d'):Dv d' D v L:=
 let ⟨b,T,vs,vo,r,hs,ho,h1,h2,h3,h4,h5,h6⟩:=h
 ⟨b,T,vs,vo,r,hs,ho,h1,h2,As.mono (R:=Rx) XC h3 hl,As.mono (R:=RWr) Zl h4 hl,h5,h6⟩
def HE(P:Program) (f:FuncId):Prop:=∀{d:Ac}{D:Et}{v:Value}{L:List Ac},Dv d D v L→CW P f [v] d L (.int .i64 D.syn.length)
def JF:AY:=⟨10,[(.tmp 2)],(sR (o1 2 (.mv (kZ 0)) .done) (.seq (sR (om 3 0<|o1 4 (.eqp false (tP 3) (.const (.pointer none))) .done) (.cond (tP 4) (sR (o1 2 (.mv (kZ 0)) .done) .ret) .skip)) (sR (om 5 0<|o1 6 (.nilc (tP 5))<|oj 7 0 6<|ol 8 7<|oL 9 8<|om 2 9 .done) .ret)))⟩
theorem Xk{P:Program}{f:FuncId} (hd:dec P f=some JF):HE P f:=by
 intro d D v L h
 obtain⟨b,T,vs,vo,r,hs,ho,rfl,rfl,h3,h4,h5,h6⟩:=h
 refine AG hd (Aca rfl) ?_
 show gwp P _ _ _ _ _
 (refine Ad<|Ab rfl<|Aa<|Ah<|Ad<|Ak rfl<|Cu rfl rfl<|Aa<|AR rfl<|Al<|Ad<|Ak rfl<|Av rfl<|Ai rfl<|Ag rfl (Aj 0 rfl rfl)<|VQ rfl (by assumption)<|Ab rfl<|Aa<|Ao ?_)
 exact JI rfl (Acb _)
def H3(P:Program) (f:FuncId):Prop:=∀{d:Ac}{D:Et}{v:Value}{L:List Ac}{k n:Nat},Dv d D v L→k<D.syn.length→n=256→CW P f [v,.int .i64 k,.int .i64 n] d L (.int .i64 0)
def I5(a0:Nat):AY:=⟨32,[(.tmp 6)],(sR (o1 6 (.mv (kZ 0)) .done) (.seq (.block 0 (sR (om 8 0<|oc 9 a0 [(tP 8)]<|ob 10 .eql (tP 9) (kZ 0)<|om 7 10 .done) (.cond (tP 7) (sR (o1 6 (.mv (kZ 1)) .done) .ret) (sR (om 12 1<|ob 13 .lss (tP 12) (kZ 0)<|om 14 13<|gF 15 14 1<|gF 16 14 0<|oF 17 14 (.nilc (tP 16))<|oF 18 14 (.fld 0 (tP 17))<|oF 19 14 (.ld none (tP 18))<|oF 20 14 (.len (tP 19))<|oF 21 14 (.bin .geq (tP 15) (tP 20))<|o1 22 (.pick (tP 14) (.const (.bool true)) (tP 21))<|om 11 22 .done) (.cond (tP 11) (sR (o1 6 (.mv (kZ 4)) .done) .ret) (sR (om 24 2<|ob 25 .neq (tP 24) (kZ 256)<|om 23 25 .done) (.cond (tP 23) (sR (o1 6 (.mv (kZ 2)) .done) .ret) (sR (om 27 0<|o1 28 (.nilc (tP 27))<|oj 29 3 28<|ol 30 29<|ob 31 .eql (tP 30) (kZ 1)<|om 26 31 .done) (.cond (tP 26) (sR (o1 6 (.mv (kZ 150)) .done) .ret) .skip))))))))) (sR (o1 6 (.mv (kZ 0)) .done) .ret)))⟩
theorem WJ{P:Program}{f f1:FuncId} (hd:dec P f=some (I5 f1)) (h1:HE P f1):H3 P f:=by
 intro d D v L k n h hk hn
 have h0:=h
 obtain⟨b,T,vs,vo,r,hs,ho,rfl,rfl,h3,h4,h5,h6⟩:=h
 refine AG hd (Aca rfl) ?_
 show gwp P _ _ _ _ _
 (refine Ad<|Ab rfl<|Aa<|Ah<|Ax<|Ad<|Ak rfl ?_)
 refine CM (B:=[]) rfl rfl (h1 h0) ?_
 (refine AJ rfl rfl<|Ae rfl<|Aa<|Ar rfl (by omega)<|Ad<|Ab rfl<|AA rfl rfl<|Ae rfl<|AZ rfl (by omega)<|Af rfl<|Ab rfl<|Af rfl<|Ak rfl<|Af rfl<|Av rfl<|Af rfl<|Ai rfl<|Af rfl<|Ag rfl (Aj 0 rfl rfl)<|Af rfl<|VQ rfl (by assumption)<|Af rfl<|DL rfl rfl<|Aq rfl rfl<|Ae rfl<|Aa<|Ar rfl (by omega)<|Ad<|Ab rfl<|AO rfl rfl<|Ae rfl<|Aa<|Ar rfl (by omega)<|Ad<|Ak rfl<|Av rfl<|Ai rfl<|Ag rfl (Aj 0 rfl rfl)<|AJ rfl rfl<|Ae rfl<|Aa<|Ar rfl (by omega)<|Al<|Ad<|Ab rfl<|Aa<|Ao ?_)
 exact JI rfl (Acb _)
def LV(P:Program) (f:FuncId):Prop:=∀{d:Ac}{D:Et}{v:Value}{L:List Ac},Dv d D v L→Aw P f [v] d L (Ret fun _ d' L'=>d'=d∧L'=L)
def JL:AY:=⟨14,[],(sR (om 2 0<|o1 3 (.nilc (tP 2))<|oj 4 3 3<|ol 5 4<|ob 6 .gtr (tP 5) (kZ 1) .done) (.cond (tP 6) (rG (om 7 0<|o1 8 (.nilc (tP 7))<|oj 9 3 8<|ol 10 9<|ob 11 .sub (tP 10) (kZ 1)<|o1 12 (.nilc (tP 7))<|oj 13 3 12<|o0 (.st 1 (tP 13) (tP 11)) .done)) .skip))⟩
theorem Yo{P:Program}{f:FuncId} (hd:dec P f=some JL):LV P f:=by
 intro d D v L h
 obtain⟨b,T,vs,vo,r,hs,ho,rfl,rfl,h3,h4,h5,h6⟩:=h
 refine AG hd (Aca rfl) ?_
 show gwp P _ _ _ _ _
 (refine Ad<|Ak rfl<|Av rfl<|Ai rfl<|Ag rfl (Aj 0 rfl rfl)<|BS rfl rfl<|Aa<|Ar rfl (by omega)<|Al ?_)
 exact EF [] trivial (Acb _) ⟨rfl,rfl⟩
def MT(P:Program) (f:FuncId):Prop:=∀{d:Ac}{n:Nat},1≤n→n≤8192→Aw P f [.int .i64 n] d [] (Ret fun r d' L'=>∃v,r=.tuple #[v,.int .i64 0]∧d'=d∧Dv d ⟨Acr n IF,[]⟩ v L')
def QW:AY:=⟨14,[(.tmp 2),(.tmp 3)],(sR (o1 2 (.mv (.const (.pointer none)))<|o1 3 (.mv (kZ 0)) .done) (.seq (sR (om 4 0<|ob 5 .lss (tP 4) (kZ 1)<|om 6 5<|gF 7 6 0<|oF 8 6 (.bin .gtr (tP 7) (kZ 8192))<|o1 9 (.pick (tP 6) (.const (.bool true)) (tP 8)) .done) (.cond (tP 9) (sR (o1 2 (.mv (.const (.pointer none)))<|o1 3 (.mv (kZ 2)) .done) .ret) .skip)) (sR (om 10 0<|o1 11 (.mks 256 256 CQ (tP 10) (tP 10))<|o1 12 (.bld [(0,1),(1,1),(2,1),(3,1)] [(.slice none 0 0),(.slice none 0 0),(.int .i64 0),(.int .i64 0)] [(0,(tP 11))])<|o1 13 (.box (tP 12))<|om 2 13<|o1 3 (.mv (kZ 0)) .done) .ret)))⟩
theorem Zg{P:Program}{f:FuncId} (hd:dec P f=some QW):MT P f:=by
 intro d n h1 h2
 refine AG hd (Aca rfl) ?_
 show gwp P _ _ _ _ _
 (refine Ad<|Ak rfl<|Ab rfl<|Aa<|Ah<|Ad<|Ab rfl<|AA rfl rfl<|Ae rfl<|AZ rfl (by omega)<|Af rfl<|Ab rfl<|Af rfl<|BS rfl rfl<|Aq rfl rfl<|Aa<|Ar rfl (by omega)<|Al<|Ad<|Ab rfl ?_)
 refine Hp rfl rfl (Ach n) (by omega) (by omega) (fun b T=>?_)
 (refine BI rfl<|Cc rfl (fun _ _=>Ak rfl<|Ab rfl<|Aa<|Ao ?_))
 rename_i b2 T2
 refine A7 [_,_] ⟨rfl,rfl,trivial⟩ (d':=d) (L':=[bx b2 T2 [.slice (some ⟨b,0,none⟩) n n,.slice none 0 0,.int .i64 0,.int .i64 0],bx b T (Bp CQ (n*256)),emp]) ?_ ⟨_,rfl,rfl,_,_,_,_,_,_,_,rfl,rfl,?_,As.nil,fun w hw=>(by cases hw),by simpa using h2⟩
 ·exact(Vs.emp).trans (Vs.perm (Aci (l₁:=[emp])))
 ·exact As.zero Dh (by omega) Aav (by omega)
def Nx(P:Program) (f:FuncId):Prop:=∀{d:Ac}{D:Et}{v w:Value}{L:List Ac}{k:Nat}{l:Sec},Dv d D v L→k<D.syn.length→AM d w l→l.length=256→D.opn.length≤1000000→
 Aw P f [v,.int .i64 k,w] d L (Ret fun r d' L'=>r=.int .i64 0∧d'=d∧Dv d ⟨D.syn,D.opn++[(k,l)]⟩ v L')
def I0(a0 a1:Nat):AY:=⟨32,[(.tmp 6)],(sR (o1 6 (.mv (kZ 0)) .done) (.seq (sR (om 8 0<|om 9 1<|om 10 2<|oL 11 10<|oc 12 a0 [(tP 8),(tP 9),(tP 11)]<|om 7 12 .done) (sR (om 13 7<|ob 14 .neq (tP 13) (kZ 0) .done) (.cond (tP 14) (sR (om 15 7<|om 6 15 .done) .ret) .skip))) (.seq (.reg true (pm 16 0<|pm 17 0<|p1 18 (.nilc (tP 17))<|p1 19 (.fld 1 (tP 18))<|pm 21 1<|pm 22 2<|p1 23 (.s2a 256 (tP 22))<|p1 24 (.ld (some 256) (tP 23))<|p1 25 (.bld [(0,1),(1,256)] (Value.int .i64 0::CQ) [(0,(tP 21)),(1,(tP 24))]) (.alt ⟨(some 20),none,(.ld none (tP 19))⟩ (o1 26 (.bsl 1 257 (Value.int .i64 0::CQ) [(0,(tP 25))]) (o1 27 (.app 257 264 (Value.int .i64 0::CQ) (tP 20) (tP 26)) (p1 28 (.nilc (tP 16)) (p1 29 (.fld 1 (tP 28)) (o0 (.st 1 (tP 29) (tP 27)) .done))))) (o1 26 (.bsl 1 257 (Value.int .i64 0::CQ) [(0,(tP 25))]) (ol 20 19 (o1 27 (.app 257 264 (Value.int .i64 0::CQ) (tP 20) (tP 26)) (p1 28 (.nilc (tP 16)) (p1 29 (.fld 1 (tP 28)) (o0 (.st 1 (tP 29) (tP 27)) .done))))))))) (sR (om 30 0<|oc 31 a1 [(tP 30)] .done) (sR (o1 6 (.mv (kZ 0)) .done) .ret)))))⟩
theorem Ww{P:Program}{f f1 f2:FuncId} (hd:dec P f=some (I0 f1 f2)) (h1:H3 P f1) (h2:LV P f2):Nx P f:=by
 intro d D v w L k l h hk hw hl hn
 have h0:=h
 obtain⟨b,T,vs,vo,r,hs,ho,rfl,rfl,h3,h4,h5,h6⟩:=h
 refine AG hd (Aca rfl) ?_
 show gwp P _ _ _ _ _
 (refine Ad<|Ab rfl<|Aa<|Ah<|Ad<|Ak rfl<|Ab rfl<|AK<|BE rfl (by assumption) ?_)
 refine CM (B:=[]) rfl rfl (h1 h0 hk hl) ?_
 (refine Ab rfl<|Aa<|Ad<|Ab rfl<|AO rfl rfl<|Aa<|Ar rfl (by omega)<|Al<|Ah ?_)
 refine Br [] _ rfl ?_
 (refine Ak rfl<|Ak rfl<|Av rfl<|Ai rfl<|Ab rfl<|AK ?_)
 refine Aap true rfl hw hl (by omega) (fun p=>?_)
 refine Abk rfl rfl (by rw [Adx];exact hl) ?_
 have hcl:(Value.int .i64 (k:Int)::l.map Az).length=257:=by rw [Acs,Adx];omega
 have hwr:RWr d (Value.int .i64 (k:Int)::l.map Az) (k,l):=⟨rfl,hl⟩
 refine EB ?_ ?_
 ·(apply Ag;rfl;exact Aj 0 rfl rfl)
  refine QO rfl (by rw [Acs,Dh]) hcl (by omega) (fun b2 T2=>?_)
  skip
  refine D8 (R:=RWr) 2 rfl rfl h4 rfl (As.Es hcl hwr) RN (by omega) (by simp;omega) (by simp;omega) (fun v' h' ho'=>?_)
  (refine Av rfl<|Ai rfl ?_)
  obtain⟨av,cv,rfl⟩:=ho'.val
  refine A0 0 [vs,.slice av (D.opn++[(k,l)]).length cv,.int .i64 r,.int .i64 0] rfl rfl rfl rfl (Aca rfl) rfl rfl ?_
  have hD:Dv d ⟨D.syn,D.opn++[(k,l)]⟩ (.pointer (some ⟨b,0,none⟩)) [bx b T [vs,.slice av (D.opn++[(k,l)]).length cv,.int .i64 r,.int .i64 0],hs,h']:=
   ⟨b,T,vs,_,r,hs,h',rfl,rfl,h3,ho',fun w hw=>by
    rcases Ack.1 hw with hw|hw
    ·exact h5 w hw
    ·cases Acv.1 hw;exact hk,h6⟩
  (refine Aa<|Ad<|Ak rfl ?_)
  refine OR (B:=[]) rfl rfl (h2 hD) (fun u d' L' _ ⟨e1,e2⟩=>?_)
  subst e1;subst e2
  (refine Aa<|Ad<|Ab rfl<|Aa<|Ao ?_)
  exact BG rfl (Acb _) ⟨rfl,rfl,hD⟩
 ·refine QO rfl (by rw [Acs,Dh]) hcl (by omega) (fun b2 T2=>?_)
  (apply Ag;rfl;exact Aj 1 rfl rfl)
  refine D8 (R:=RWr) 2 rfl rfl h4 rfl (As.Es hcl hwr) RN (by omega) (by simp;omega) (by simp;omega) (fun v' h' ho'=>?_)
  (refine Av rfl<|Ai rfl ?_)
  obtain⟨av,cv,rfl⟩:=ho'.val
  refine A0 0 [vs,.slice av (D.opn++[(k,l)]).length cv,.int .i64 r,.int .i64 0] rfl rfl rfl rfl (Aca rfl) rfl rfl ?_
  have hD:Dv d ⟨D.syn,D.opn++[(k,l)]⟩ (.pointer (some ⟨b,0,none⟩)) [bx b T [vs,.slice av (D.opn++[(k,l)]).length cv,.int .i64 r,.int .i64 0],hs,h']:=
   ⟨b,T,vs,_,r,hs,h',rfl,rfl,h3,ho',fun w hw=>by
    rcases Ack.1 hw with hw|hw
    ·exact h5 w hw
    ·cases Acv.1 hw;exact hk,h6⟩
  (refine Aa<|Ad<|Ak rfl ?_)
  refine OR (B:=[]) rfl rfl (h2 hD) (fun u d' L' _ ⟨e1,e2⟩=>?_)
  subst e1;subst e2
  (refine Aa<|Ad<|Ab rfl<|Aa<|Ao ?_)
  exact BG rfl (Acb _) ⟨rfl,rfl,hD⟩
def OW(P:Program) (f:FuncId):Prop:=∀{d:Ac}{D:Et}{v:Value}{L:List Ac},Dv d D v L→1≤D.syn.length→
 Aw P f [v] d L (Ret fun r d' L'=>r=.int .i64 0∧d'=d∧Dv d ⟨synced D.opn D.syn,[]⟩ v L')
def Jx(a0 a1:Nat):AY:=⟨35,[(.tmp 2)],(sR (o1 2 (.mv (kZ 0)) .done) (.seq (sR (om 6 0<|oc 7 a0 [(tP 6),(kZ 0),(kZ 256)]<|om 3 7 .done) (sR (om 8 3<|ob 9 .neq (tP 8) (kZ 0) .done) (.cond (tP 9) (sR (om 10 3<|om 2 10 .done) .ret) .skip))) (.seq (sR (om 11 0<|o1 12 (.nilc (tP 11))<|oj 13 1 12<|ol 14 13<|oL 15 14<|o1 16 (.mv (kZ 0)) .done) (.block 0 (.loop (sR (ob 17 .lss (tP 16) (tP 15) .done) (.seq (.cond (tP 17) .skip (.exit 0)) (.seq (.block 1 (sR (oI 18 257 14 16<|o1 19 (.ld (some 257) (tP 18))<|o1 5 (.alo (.agg (Value.int .i64 0::CQ).toArray))<|o0 (.st 257 (tP 5) (tP 19)) .done) (.reg true (pm 20 0<|p1 21 (.nilc (tP 20))<|p1 22 (.fld 0 (tP 21))<|pl 23 22<|p1 24 (.fld 0 (tP 5))<|pl 25 24<|p1 26 (.fld 1 (tP 5))<|p1 27 (.ld (some 256) (tP 26))<|p1 28 (.idx 256 (tP 23) (tP 25)) (.bar (o0 (.st 256 (tP 28) (tP 27)) .done)))))) (rG (ob 29 .add (tP 16) (kZ 1)<|om 16 29 .done)))))))) (sR (om 30 0<|o1 31 (.nilc (tP 30))<|oj 32 1 31<|o0 (.st 1 (tP 32) nS) .done) (sR (om 33 0<|oc 34 a1 [(tP 33)] .done) (sR (o1 2 (.mv (kZ 0)) .done) .ret))))))⟩
theorem Yx{P:Program}{f f1 f2:FuncId} (hd:dec P f=some (Jx f1 f2)) (h1:H3 P f1) (h2:LV P f2):OW P f:=by
 intro d D v L h hk
 have h0:=h
 obtain⟨b,T,vs,vo,r,hs,ho,rfl,rfl,h3,h4,h5,h6⟩:=h
 obtain⟨ao,co,rfl⟩:=h4.val
 have hlen:=h4.BW
 refine AG hd (Aca rfl) ?_
 show gwp P _ _ _ _ _
 (refine Ad<|Ab rfl<|Aa<|Ah<|Ad<|Ak rfl ?_)
 refine CM (B:=[]) rfl rfl (h1 (n:=256) (k:=0) h0 hk rfl) ?_
 (refine Ab rfl<|Aa<|Ad<|Ab rfl<|AO rfl rfl<|Aa<|Ar rfl (by omega)<|Al<|Ah<|Ad<|Ak rfl<|Av rfl<|Ai rfl<|Ag rfl (Aj 0 rfl rfl)<|AL rfl<|Ab rfl<|Aa<|Ax ?_)
 refine CI (α:=Nat×Ac) (fun x=>[(0,.pointer (some ⟨b,0,none⟩)),(14,.slice ao D.opn.length co),(15,.int .i64 D.opn.length),(16,.int .i64 x.1)])
  (fun x d' L'=>d'=d∧x.1≤D.opn.length∧L'=[bx b T [vs,.slice ao D.opn.length co,.int .i64 r,.int .i64 0],x.2,ho]∧As 256 Rx d vs (synced (D.opn.take x.1) D.syn) x.2) (fun x=>D.opn.length - x.1) (0,hs)
  ⟨rfl,rfl,rfl,rfl,trivial⟩ ⟨rfl,by omega,rfl,h3⟩ ?_
 rintro⟨i,hs'⟩ ρ d' L' ⟨rfl,hi,rfl,hg⟩
 simp only at hi hg⊢
 by_cases e:i<D.opn.length
 ·obtain⟨bo,To,lo,co',cs,e1,e2,hcl,hcs,hle,hr, -⟩:=As.at (by omega) h4 e
  cases e1;subst e2
  obtain⟨rfl,hbl⟩:=hr
  have hin:D.opn[i].1<(synced (D.opn.take i) D.syn).length:=by rw [Ez];exact h5 _ (Ada e)
  obtain⟨bs,Ts,ls,cs',us,rfl,rfl,hul,hus,hsle, -,hset⟩:=As.at (by omega) hg hin
  (refine Ad<|AA rfl rfl<|Aa<|Ah<|Ay rfl (by omega)<|Al<|Ah<|Ax<|Ad<|Bx _ rfl rfl rfl (by omega) ?_)
  refine JX _ 2 rfl rfl hcl hcs ?_
  (apply BV;intro _ _)
  refine JG 0 rfl rfl rfl hcl (by rw [Acs,Dh]) (by rw [Agy,CC];rfl) ?_
  (refine Aa<|Bv<|Ak rfl<|Av rfl<|Ai rfl<|Ag rfl (Aj 1 rfl rfl)<|Ai rfl<|Ag rfl (Aj 0 rfl rfl)<|Ai rfl ?_)
  refine JX (D.opn[i].2.map Az) 0 rfl rfl (by rw [Adx];exact hbl) (fun j u hu=>by rw [Nat.add_comm];simpa using hu) ?_
  (refine Bx _ rfl rfl rfl (by omega)<|B4 ?_)
  refine Bq 2 rfl rfl rfl (by rw [Adx];exact hbl) hsle (CC _) ?_
  refine FE ⟨_,[_,_,_],Vs.drop (Acz _ _),?_⟩
  (refine AE<|AN rfl rfl (by omega) (by omega)<|Ab rfl<|Aa ?_)
  refine⟨(i+1,_),by simp only;omega,⟨rfl,rfl,rfl,rfl,trivial⟩,rfl,e,rfl,?_⟩
  have:=hset _ D.opn[i].2 (by rw [Adx];exact hbl) ⟨rfl,hbl⟩
  rw [Acx e]
  rw [IJ]
  exact this
 ·(refine Ad<|AA rfl rfl<|Aa<|Ah<|Ar rfl (by omega)<|Bh<|Ad<|Ak rfl<|Av rfl<|Ai rfl ?_)
  refine A0 0 [vs,.slice none 0 0,.int .i64 r,.int .i64 0] rfl rfl rfl rfl (Aca rfl) rfl rfl ?_
  have ei:i=D.opn.length:=by omega
  subst ei
  rw [Aeg] at hg
  have hD:Dv d' ⟨synced D.opn D.syn,[]⟩ (.pointer (some ⟨b,0,none⟩)) [bx b T [vs,.slice none 0 0,.int .i64 r,.int .i64 0],hs',emp]:=
   ⟨b,T,vs,_,r,hs',emp,rfl,rfl,hg,As.nil,fun w hw=>(by cases hw),by rw [Ez];exact h6⟩
  refine FE ⟨d',[bx b T [vs,.slice none 0 0,.int .i64 r,.int .i64 0],hs',emp],?_,?_⟩
  ·exact((Vs.drop (by exact Aeo _ (Aeo _ (List.Sublist.cons _ List.Sublist.slnil)))).trans Vs.emp).trans (Vs.perm (Aci (l₁:=[emp])))
  (refine Ad<|Ak rfl ?_)
  refine OR (B:=[]) rfl rfl (h2 hD) (fun u d' L' _ ⟨e1,e2⟩=>?_)
  subst e1;subst e2
  (refine Aa<|Ad<|Ab rfl<|Aa<|Ao ?_)
  exact BG rfl (Acb _) ⟨rfl,rfl,hD⟩
end Go.Gk.Dev
end
section
namespace Go.Gk.Cch
open Go Go.Gk Go.Gk.Dev
structure Fr where
 held:Bool
 sec:Nat
 pins:Nat
 late:Bool
 b:Sec
def fz:Fr:=⟨false,0,0,false,[]⟩
structure CD where
 fr:List Fr
 free:List Nat
 hand:Nat
 hits:Nat
 miss:Nat
def findF(k:Nat):List Fr→Option Nat
 |[]=>none
 |f::l=>if f.held=true∧f.sec=k then some 0 else(findF k l).map (·+1)
theorem Up{k:Nat}{l:List Fr}{i:Nat} (hi:i<l.length):findF k (l.drop i)=if l[i].held=true∧l[i].sec=k then some 0 else(findF k (l.drop (i+1))).map (·+1):=by
 rw [Adi hi];rfl
theorem EZ{k:Nat}:∀{l:List Fr}{i:Nat},findF k l=some i→∃h:i<l.length,l[i].held=true∧l[i].sec=k
 |[],i,h=>by cases h
 |f::l,i,h=>by
  rw [findF] at h
  split at h
  ·rename_i e;cases h;exact⟨by simp,e⟩
  ·cases hf:findF k l with
   |none=>rw [hf] at h;cases h
   |some j=>
    rw [hf] at h;cases h
    obtain⟨h1,h2⟩:=EZ hf
    exact⟨by simpa using h1,by simpa using h2⟩
theorem OC{k:Nat}:∀{l:List Fr},findF k l=none→∀f∈l,¬(f.held=true∧f.sec=k)
 |f::l,h,g,hg=>by
  rw [findF] at h
  split at h
  ·cases h
  ·rename_i e
   rcases Adb.1 hg with rfl|hg
   ·exact e
   ·refine OC ?_ g hg
    cases hf:findF k l with
    |none=>rfl
    |some j=>rw [hf] at h;cases h
def Cf(l:List Fr):Bool:=l.all fun f=>f.pins !=0
def Bz(l:List Fr) (h:Nat):Bool:=(l.getD h fz).pins==0 && !(l.getD h fz).late
def Dq(l:List Fr) (h:Nat):List Fr:=if (l.getD h fz).pins=0 then l.set h {l.getD h fz with late:=false} else l
def Cs(l:List Fr) (h:Nat):Nat:=(h+1) % l.length
def Cn:Nat→List Fr→Nat→List Fr×Nat×Nat
 |0,l,h=>(l,Cs l h,h)
 |n+1,l,h=>if Bz l h then(l,Cs l h,h) else Cn n (Dq l h) (Cs l h)
theorem EX(l:List Fr) (h:Nat):(Dq l h).length=l.length:=by unfold Dq;split<;>simp
def QC(l:List Fr):Nat:=l.countP fun f=>f.pins==0 && f.late
def F3(l:List Fr):Nat→Nat→Nat
 |0,_=>0
 |n+1,h=>if (l.getD h fz).pins=0 then 0 else F3 l n (Cs l h)+1
def Dc(l:List Fr) (h:Nat):Nat:=QC l*(l.length+1)+F3 l l.length h
theorem TY(l:List Fr):∀n h,F3 l n h≤n
 |0,_=>Ach _
 |n+1,h=>by rw [F3];split;omega;have:=TY l n (Cs l h);omega
theorem NG{l:List Fr}{j:Nat} (hj:j<l.length) (hp:(l.getD j fz).pins=0):∀(n h:Nat),h<l.length→(h+n) % l.length=j→∀m,n<m→F3 l m h=F3 l (n+1) h
 |0,h,hh,e,m,hm=>by
  rw [Nat.add_zero,Afd hh] at e
  subst e
  cases m with
  |zero=>omega
  |succ m=>rw [F3,F3,if_pos hp,if_pos hp]
 |n+1,h,hh,e,m,hm=>by
  cases m with
  |zero=>omega
  |succ m=>
   rw [F3,F3]
   by_cases q:(l.getD h fz).pins=0
   ·rw [if_pos q,if_pos q]
   ·rw [if_neg q,if_neg q]
    have h1:Cs l h<l.length:=Afn _ (by omega)
    have h2:(Cs l h+n) % l.length=j:=by
     rw [Cs,Nat.mod_add_mod,←e];congr 1;omega
    rw [NG hj hp n (Cs l h) h1 h2 m (by omega)]
theorem Wl{l:List Fr}{h:Nat} (hh:h<l.length) (hn:Cf l=false) (hp:(l.getD h fz).pins≠0):F3 l l.length (Cs l h)<F3 l l.length h:=by
 obtain⟨f,hf,hq⟩:=by simpa [Cf] using hn
 obtain⟨j,hj,rfl⟩:=Aei hf
 have hj0:(l.getD j fz).pins=0:=by rw [Acf,Ace hj];exact hq
 have hpos:0<l.length:=by omega
 have key:∃n,n<l.length∧(Cs l h+n) % l.length=j:=by
  have h1:Cs l h<l.length:=Afn _ hpos
  refine⟨(j+l.length - Cs l h) % l.length,Afn _ hpos,?_⟩
  rw [Nat.add_mod_mod,show Cs l h+(j+l.length - Cs l h)=j+l.length by omega,Nat.add_mod_right,Afd hj]
 obtain⟨n,hn1,hn2⟩:=key
 have h1:Cs l h<l.length:=Afn _ hpos
 have hn3:n≠l.length - 1:=by
  intro e
  subst e
  rw [Cs,Nat.mod_add_mod,show h+1+(l.length - 1)=h+l.length by omega,Nat.add_mod_right,Afd hh] at hn2
  subst hn2
  exact hp hj0
 obtain⟨m,hm⟩:∃m,l.length=m+1:=⟨l.length - 1,by omega⟩
 have e1:=NG hj hj0 n (Cs l h) h1 hn2 l.length hn1
 have e2:=NG hj hj0 n (Cs l h) h1 hn2 m (by omega)
 have e3:F3 l l.length h=F3 l m (Cs l h)+1:=by
  rw [hm,F3,if_neg hp]
 rw [e3,e1,e2];omega
theorem Vu{l:List Fr}{h:Nat} (hh:h<l.length) (hp:(l.getD h fz).pins=0) (hl:(l.getD h fz).late=true):QC (l.set h {l.getD h fz with late:=false})+1=QC l:=by
 unfold QC
 have e:l.getD h fz=l[h]:=by rw [Acf,Ace hh];rfl
 rw [e] at hp hl⊢
 rw [List.countP_set hh]
 simp only [hp,hl]
 have:0<l.countP fun f=>f.pins==0 && f.late:=List.countP_pos_iff.2 ⟨l[h],Ada hh,by simp [hp,hl]⟩
 simp
 omega
theorem G5{l:List Fr}{h:Nat} (hh:h<l.length) (hn:Cf l=false) (ht:Bz l h=false):Dc (Dq l h) (Cs l h)<Dc l h:=by
 have hd:=TY (Dq l h) (Dq l h).length (Cs l h)
 rw [EX] at hd
 unfold Dc
 rw [EX]
 by_cases hp:(l.getD h fz).pins=0
 ·have hl:(l.getD h fz).late=true:=by
   unfold Bz at ht
   rw [hp] at ht
   simpa using ht
  have:=Vu hh hp hl
  have e:Dq l h=l.set h {l.getD h fz with late:=false}:=by rw [Dq,if_pos hp]
  rw [e] at hd⊢
  rw [←this,Aer,Agn]
  omega
 ·have e:Dq l h=l:=by rw [Dq,if_neg hp]
  rw [e]
  have:=Wl hh hn hp
  omega
theorem GY{l:List Fr}{h:Nat}:Cf (Dq l h)=Cf l:=by
 unfold Dq
 split
 ·rename_i hp
  by_cases hh:h<l.length
  ·have e:l.getD h fz=l[h]:=by rw [Acf,Ace hh];rfl
   rw [e] at hp⊢
   have h1:Cf l=false:=by
    unfold Cf;rw [List.all_eq_false];exact⟨l[h],Ada hh,by simp [hp]⟩
   have h2:Cf (l.set h {l[h] with late:=false})=false:=by
    unfold Cf;rw [List.all_eq_false]
    exact⟨_,List.mem_set hh _,by simp [hp]⟩
   rw [h1,h2]
  ·rw [Afh (by omega)]
 ·rfl
theorem Lw:∀(n:Nat) {l:List Fr}{h:Nat},h<l.length→Cf l=false→Dc l h<n→∀m,n≤m→Cn m l h=Cn n l h
 |0,l,h,_,_,hm,_,_=>by omega
 |n+1,l,h,hh,hn,hm,m,hle=>by
  cases m with
  |zero=>omega
  |succ m=>
   rw [Cn,Cn]
   cases ht:Bz l h with
   |true=>rfl
   |false=>
    simp only [Acj,if_false]
    exact Lw n (by rw [EX];exact Afn _ (by omega)) (by rw [GY];exact hn) (by have:=G5 hh hn ht;omega) m (by omega)
theorem Oe{l:List Fr}{h:Nat} (hh:h<l.length) (hn:Cf l=false) (ht:Bz l h=false):Cn (Dc (Dq l h) (Cs l h)+1) (Dq l h) (Cs l h)=Cn (Dc l h+1) l h:=by
 rw [show Cn (Dc l h+1) l h=Cn (Dc l h) (Dq l h) (Cs l h) by rw [Cn,ht];rfl]
 have h1:=G5 hh hn ht
 exact(Lw _ (by rw [EX];exact Afn _ (by omega)) (by rw [GY];exact hn) (Nat.lt_succ_self _) _ (by omega)).symm
def EK(c:CD):CD×Option Nat:=
 match c.free with
 |i::r=>({c with free:=r},some i)
 |[]=>if Cf c.fr then(c,none) else let s:=Cn (Dc c.fr c.hand+1) c.fr c.hand;({c with fr:=s.1,hand:=s.2.1},some s.2.2)
def Er(b:Sec) (c:CD) (k:Nat):CD×Option Sec:=
 match findF k c.fr with
 |some i=>({c with fr:=c.fr.set i {c.fr.getD i fz with pins:=(c.fr.getD i fz).pins+1,late:=true},hits:=c.hits+1},some (c.fr.getD i fz).b)
 |none=>match EK c with
  |(c',none)=>(c',none)
  |(c',some i)=>({c' with fr:=c'.fr.set i ⟨true,k,1,true,b⟩,miss:=c'.miss+1},some b)
def C3(c:CD) (k:Nat):CD×Int:=
 match findF k c.fr with
 |none=>(c,240)
 |some i=>if (c.fr.getD i fz).pins=0 then(c,180) else({c with fr:=c.fr.set i {c.fr.getD i fz with pins:=(c.fr.getD i fz).pins - 1}},0)
def C0(c:CD) (k:Nat):CD×Int:=
 match findF k c.fr with
 |none=>(c,240)
 |some i=>if (c.fr.getD i fz).pins>0 then(c,180) else({c with fr:=c.fr.set i fz,free:=c.free++[i]},0)
def DT(c:CD):List Int:=c.fr.map fun f=>if f.held then(f.sec:Int) else -1
end Go.Gk.Cch
namespace Go.Gk.Cch
open Go Go.Gk Go.Gk.Dev
def Kv(c:CD) (n:Nat):Prop:=∀f∈c.fr,f.pins≤n
theorem Nw:∀(n:Nat) {l:List Fr}{h:Nat},h<l.length→(Cn n l h).1.length=l.length∧(Cn n l h).2.2<l.length∧(Cn n l h).2.1<l.length
 |0,l,h,hh=>⟨rfl,hh,Afn _ (by omega)⟩
 |n+1,l,h,hh=>by
  rw [Cn]
  split
  ·exact⟨rfl,hh,Afn _ (by omega)⟩
  ·have:=Nw n (l:=Dq l h) (h:=Cs l h) (by rw [EX];exact Afn _ (by omega))
   rw [EX] at this
   exact this
theorem Ub{c c1:CD}{i:Nat} (hh:c.hand<c.fr.length) (hf:∀i∈c.free,i<c.fr.length) (h:EK c=(c1,some i)):i<c1.fr.length:=by
 unfold EK at h
 split at h
 ·rename_i j r e
  cases h
  exact hf _ (by rw [e];exact Acu ..)
 ·split at h
  ·cases h
  ·cases h
   have:=Nw (Dc c.fr c.hand+1) hh
   simp only
   omega
end Go.Gk.Cch
end
section
namespace Go.Gk.Cch
open Go Go.Gk Go.Gk.Dev
theorem Hg:∀{l m:List Nat},l.Nodup→(∀x∈l,x∈m)→l.length≤m.length
 |[],_,_,_=>Adf _
 |x::l,m,h,hs=>by
  have hx:=hs x (Acu ..)
  have:=Hg (l:=l) (m:=m.erase x) (Afr.1 h).2 (fun y hy=>by
   have hne:y≠x:=fun e=>(Afr.1 h).1 (e▸hy)
   exact(List.mem_erase_of_ne hne).2 (hs y (Acy _ hy)))
  rw [List.length_erase_of_mem hx] at this
  have:=List.length_pos_of_mem hx
  simp only [Acs];omega
abbrev CD.at(c:CD) (i:Nat):Fr:=c.fr.getD i fz
structure Inv (cur:Nat→Sec) (N:Nat) (c:CD):Prop where
 n1:1≤c.fr.length
 n2:c.fr.length≤64
 hd:c.hand<c.fr.length
 fl:∀i∈c.free,i<c.fr.length
 nd:c.free.Nodup
 fh:∀i,i<c.fr.length→((c.at i).held=false↔i∈c.free)
 ds:∀i j,i<c.fr.length→j<c.fr.length→(c.at i).held=true→(c.at j).held=true→(c.at i).sec=(c.at j).sec→i=j
 vl:∀i,i<c.fr.length→(c.at i).held=true→(c.at i).sec<N∧(c.at i).b=cur (c.at i).sec
 pz:∀i,i<c.fr.length→(c.at i).held=false→(c.at i).pins=0∧(c.at i).sec=0
def Ct(c:CD) (k:Nat):Nat:=match findF k c.fr with|some i=>(c.at i).pins|none=>0
theorem at_set{l:List Fr}{i j:Nat}{f:Fr} (hi:i<l.length):(l.set i f).getD j fz=if j=i then f else l.getD j fz:=by
 simp only [Acf,List.getElem?_set]
 by_cases e:i=j
 ·subst e;simp [hi]
 ·rw [if_neg e,if_neg (fun h=>e h.symm)]
theorem CR{l:List Fr}{i:Nat} (hi:i<l.length):l.getD i fz=l[i]:=by rw [Acf,Ace hi];rfl
theorem C4{c:CD}{k i:Nat} (h:findF k c.fr=some i):i<c.fr.length∧(c.at i).held=true∧(c.at i).sec=k:=by
 obtain⟨h1,h2,h3⟩:=EZ h
 exact⟨h1,by rw [CD.at,CR h1];exact h2,by rw [CD.at,CR h1];exact h3⟩
theorem Gj{c:CD}{k:Nat} (h:findF k c.fr=none) {i:Nat} (hi:i<c.fr.length) (hh:(c.at i).held=true):(c.at i).sec≠k:=by
 intro e
 rw [CD.at,CR hi] at hh e
 exact OC h _ (Ada hi) ⟨hh,e⟩
theorem Inv.find{cur:Nat→Sec}{N:Nat}{c:CD} (h:Inv cur N c) {k i:Nat} (hi:i<c.fr.length) (hh:(c.at i).held=true) (hs:(c.at i).sec=k):findF k c.fr=some i:=by
 cases hf:findF k c.fr with
 |none=>exact absurd hs (Gj hf hi hh)
 |some j=>
  obtain⟨h1,h2,h3⟩:=C4 hf
  rw [h.ds j i h1 hi h2 hh (h3.trans hs.symm)]
theorem R3{cur:Nat→Sec}{N:Nat}{c:CD} (h:Inv cur N c) {i:Nat} (hi:i<c.fr.length) (hh:(c.at i).held=true):Ct c (c.at i).sec=(c.at i).pins:=by
 rw [Ct,h.find hi hh rfl]
def Em(l m:List Fr):Prop:=l.length=m.length∧∀i,(l.getD i fz).held=(m.getD i fz).held∧(l.getD i fz).sec=(m.getD i fz).sec∧(l.getD i fz).pins=(m.getD i fz).pins∧(l.getD i fz).b=(m.getD i fz).b
theorem Em.refl(l:List Fr):Em l l:=⟨rfl,fun _=>⟨rfl,rfl,rfl,rfl⟩⟩
theorem Em.trans{a b c:List Fr} (h:Em a b) (k:Em b c):Em a c:=
 ⟨h.1.trans k.1,fun i=>let ⟨x,y,z,w⟩:=h.2 i;let ⟨x',y',z',w'⟩:=k.2 i;⟨x.trans x',y.trans y',z.trans z',w.trans w'⟩⟩
theorem PQ(l:List Fr) (h:Nat):Em (Dq l h) l:=by
 unfold Dq
 split
 ·by_cases hh:h<l.length
  ·refine⟨by simp,fun i=>?_⟩
   rw [at_set hh]
   by_cases e:i=h
   ·subst e;rw [if_pos rfl];exact⟨rfl,rfl,rfl,rfl⟩
   ·rw [if_neg e];exact⟨rfl,rfl,rfl,rfl⟩
  ·rw [Afh (by omega)];exact Em.refl l
 ·exact Em.refl l
theorem J1:∀(n:Nat) (l:List Fr) (h:Nat),Em (Cn n l h).1 l
 |0,l,_=>Em.refl l
 |n+1,l,h=>by
  rw [Cn]
  split
  ·exact Em.refl l
  ·exact(J1 n _ _).trans (PQ l h)
theorem OG:∀(n:Nat) {l:List Fr}{h:Nat},h<l.length→Cf l=false→Dc l h<n→(l.getD (Cn n l h).2.2 fz).pins=0
 |0,_,_,_,_,hm=>by omega
 |n+1,l,h,hh,hn,hm=>by
  rw [Cn]
  cases ht:Bz l h with
  |true=>
   simp only [if_true]
   unfold Bz at ht
   simp only [Acd,beq_iff_eq] at ht
   exact ht.1
  |false=>
   simp only [Acj,if_false]
   have:=OG n (l:=Dq l h) (h:=Cs l h) (by rw [EX];exact Afn _ (by omega)) (by rw [GY];exact hn) (by have:=G5 hh hn ht;omega)
   rw [((PQ l h).2 _).2.2.1] at this
   exact this
theorem Inv.same{cur:Nat→Sec}{N:Nat}{c c':CD} (h:Inv cur N c) (hl:c'.fr.length=c.fr.length) (hf:c'.free=c.free) (hh:c'.hand<c.fr.length)
  (he:∀i,(c'.at i).held=(c.at i).held∧(c'.at i).sec=(c.at i).sec∧(c'.at i).b=(c.at i).b∧((c.at i).held=false→(c'.at i).pins=(c.at i).pins)):Inv cur N c' where
 n1:=by rw [hl];exact h.n1
 n2:=by rw [hl];exact h.n2
 hd:=by rw [hl];exact hh
 fl:=by rw [hl,hf];exact h.fl
 nd:=by rw [hf];exact h.nd
 fh:=fun i hi=>by rw [(he i).1,hf];exact h.fh i (hl▸hi)
 ds:=fun i j hi hj h1 h2 h3=>by rw [(he i).1] at h1;rw [(he j).1] at h2;rw [(he i).2.1,(he j).2.1] at h3;exact h.ds i j (hl▸hi) (hl▸hj) h1 h2 h3
 vl:=fun i hi h1=>by rw [(he i).1] at h1;rw [(he i).2.1,(he i).2.2.1];exact h.vl i (hl▸hi) h1
 pz:=fun i hi h1=>by rw [(he i).1] at h1;rw [(he i).2.2.2 h1,(he i).2.1];exact h.pz i (hl▸hi) h1
theorem Inv.take{cur:Nat→Sec}{N:Nat}{c c1:CD} (h:Inv cur N c) (hl:Em c1.fr c.fr) (hh:c1.hand<c.fr.length) {i k:Nat} (hi:i<c.fr.length) (hk:k<N) (hn:findF k c.fr=none)
  (hf:(c.free=i::c1.free)∨(c.free=[]∧c1.free=[]∧(c.at i).pins=0)) {m:Nat} (c2:CD) (e:c2={c1 with fr:=c1.fr.set i ⟨true,k,1,true,cur k⟩,miss:=m}):
  Inv cur N c2∧(∀s,Ct c2 s=if s=k then Ct c s+1 else Ct c s)∧findF k c2.fr=some i:=by
 have hi1:i<c1.fr.length:=by rw [hl.1];exact hi
 have hlen:c2.fr.length=c.fr.length:=by subst e;simp [hl.1]
 have hat:∀j,c2.at j=if j=i then⟨true,k,1,true,cur k⟩ else c1.fr.getD j fz:=fun j=>by subst e;exact at_set hi1
 have hsame:∀j,j≠i→(c2.at j).held=(c.at j).held∧(c2.at j).sec=(c.at j).sec∧(c2.at j).pins=(c.at j).pins∧(c2.at j).b=(c.at j).b:=fun j hj=>by
  rw [hat,if_neg hj];exact hl.2 j
 have hself:c2.at i=⟨true,k,1,true,cur k⟩:=by rw [hat,if_pos rfl]
 have hfree:c2.free=c1.free:=by subst e;rfl
 have hsub:∀j,j≠i→(j∈c1.free↔j∈c.free):=fun j hj=>by
  rcases hf with hf|⟨hf1,hf2,_⟩
  ·rw [hf];simp [hj]
  ·rw [hf1,hf2]
 have hni:i∉c1.free:=by
  rcases hf with hf|⟨_,hf2,_⟩
  ·have:=h.nd;rw [hf] at this;exact(Afr.1 this).1
  ·rw [hf2];exact List.not_mem_nil
 have hpi:(c.at i).pins=0:=by
  rcases hf with hf|⟨_,_,hp⟩
  ·exact(h.pz i hi ((h.fh i hi).2 (by rw [hf];exact Acu ..))).1
  ·exact hp
 have I:Inv cur N c2:=
 {n1:=by rw [hlen];exact h.n1
  n2:=by rw [hlen];exact h.n2
  hd:=by rw [hlen];subst e;exact hh
  fl:=fun j hj=>by
   rw [hfree] at hj;rw [hlen]
   by_cases q:j=i
   ·subst q;exact absurd hj hni
   ·exact h.fl j ((hsub j q).1 hj)
  nd:=by
   rw [hfree]
   rcases hf with hf|⟨_,hf2,_⟩
   ·have:=h.nd;rw [hf] at this;exact(Afr.1 this).2
   ·rw [hf2];exact Agq
  fh:=fun j hj=>by
   rw [hlen] at hj;rw [hfree]
   by_cases q:j=i
   ·subst q;rw [hself];exact⟨(fun z=>by cases z),fun z=>absurd z hni⟩
   ·rw [(hsame j q).1,hsub j q];exact h.fh j hj
  ds:=fun a b ha hb h1 h2 h3=>by
   rw [hlen] at ha hb
   by_cases qa:a=i
   ·by_cases qb:b=i
    ·omega
    ·subst qa
     rw [hself,(hsame b qb).2.1] at h3;rw [(hsame b qb).1] at h2
     exact absurd h3.symm (Gj hn hb h2)
   ·by_cases qb:b=i
    ·subst qb
     rw [hself,(hsame a qa).2.1] at h3;rw [(hsame a qa).1] at h1
     exact absurd h3 (Gj hn ha h1)
    ·rw [(hsame a qa).1] at h1;rw [(hsame b qb).1] at h2;rw [(hsame a qa).2.1,(hsame b qb).2.1] at h3
     exact h.ds a b ha hb h1 h2 h3
  vl:=fun a ha h1=>by
   rw [hlen] at ha
   by_cases qa:a=i
   ·subst qa;rw [hself];exact⟨hk,rfl⟩
   ·rw [(hsame a qa).1] at h1;rw [(hsame a qa).2.1,(hsame a qa).2.2.2];exact h.vl a ha h1
  pz:=fun a ha h1=>by
   rw [hlen] at ha
   by_cases qa:a=i
   ·subst qa;rw [hself] at h1;cases h1
   ·rw [(hsame a qa).1] at h1;rw [(hsame a qa).2.2.1,(hsame a qa).2.1];exact h.pz a ha h1}
 have hfk:findF k c2.fr=some i:=I.find (by rw [hlen];exact hi) (by rw [hself]) (by rw [hself])
 refine⟨I,fun s=>?_,hfk⟩
 by_cases q:s=k
 ·subst q
  rw [if_pos rfl,Ct,hfk,Ct,hn]
  show(c2.at i).pins=_
  rw [hself]
 ·rw [if_neg q]
  cases hs:findF s c.fr with
  |some j=>
   obtain⟨h1,h2,h3⟩:=C4 hs
   by_cases qj:j=i
   ·subst qj
    have e1:Ct c s=0:=by rw [Ct,hs];exact hpi
    rw [e1,Ct]
    cases ht:findF s c2.fr with
    |none=>rfl
    |some a=>
     obtain⟨g1,g2,g3⟩:=C4 ht
     by_cases qa:a=j
     ·subst qa;rw [hself] at g3;exact absurd g3.symm q
     ·rw [hlen] at g1
      rw [(hsame a qa).1] at g2;rw [(hsame a qa).2.1] at g3
      exact absurd (h.ds a j g1 h1 g2 h2 (g3.trans h3.symm)) qa
   ·have:findF s c2.fr=some j:=I.find (by rw [hlen];exact h1) (by rw [(hsame j qj).1];exact h2) (by rw [(hsame j qj).2.1];exact h3)
    rw [Ct,this,Ct,hs]
    exact(hsame j qj).2.2.1
  |none=>
   have e1:Ct c s=0:=by rw [Ct,hs]
   rw [e1,Ct]
   cases ht:findF s c2.fr with
   |none=>rfl
   |some a=>
    obtain⟨g1,g2,g3⟩:=C4 ht
    rw [hlen] at g1
    by_cases qa:a=i
    ·subst qa;rw [hself] at g3;exact absurd g3.symm q
    ·rw [(hsame a qa).1] at g2;rw [(hsame a qa).2.1] at g3
     exact absurd g3 (Gj hs g1 g2)
theorem get_some{cur:Nat→Sec}{N:Nat}{c c':CD}{k:Nat}{b:Sec} (h:Inv cur N c) (hk:k<N) (hg:Er (cur k) c k=(c',some b)):
  Inv cur N c'∧b=cur k∧(∀s,Ct c' s=if s=k then Ct c s+1 else Ct c s)∧(∃i,findF k c'.fr=some i)∧c'.fr.length=c.fr.length∧
   (match findF k c.fr with|some _=>c'.hits=c.hits+1∧c'.miss=c.miss|none=>c'.hits=c.hits∧c'.miss=c.miss+1)∧
   (c.free≠[]∨findF k c.fr≠none→∀s,s≠k→(findF s c'.fr=none↔findF s c.fr=none)):=by
 unfold Er at hg
 cases hf:findF k c.fr with
 |some i=>
  rw [hf] at hg
  cases hg
  obtain⟨h1,h2,h3⟩:=C4 hf
  have hat:∀j,((c.fr.set i {c.fr.getD i fz with pins:=(c.fr.getD i fz).pins+1,late:=true}).getD j fz)=if j=i then{c.fr.getD i fz with pins:=(c.fr.getD i fz).pins+1,late:=true} else c.fr.getD j fz:=fun j=>at_set h1
  have hsame:Em (c.fr.set i {c.fr.getD i fz with pins:=(c.fr.getD i fz).pins,late:=true}) c.fr:=⟨by simp,fun j=>by
   rw [at_set h1]
   by_cases q:j=i
   ·subst q;rw [if_pos rfl];exact⟨rfl,rfl,rfl,rfl⟩
   ·rw [if_neg q];exact⟨rfl,rfl,rfl,rfl⟩⟩
  have hfind:∀s,findF s (c.fr.set i {c.fr.getD i fz with pins:=(c.fr.getD i fz).pins+1,late:=true})=findF s c.fr:=by
   intro s
   have gen:∀(l:List Fr) (i:Nat) (f:Fr),f.held=(l.getD i fz).held→f.sec=(l.getD i fz).sec→findF s (l.set i f)=findF s l:=by
    intro l
    induction l with
    |nil=>intro i f _ _;rfl
    |cons g l ih=>
     intro i f e1 e2
     cases i with
     |zero=>simp only [Aey] at e1 e2;rw [List.set_cons_zero,findF,findF,e1,e2]
     |succ i=>simp only [Aeu] at e1 e2;rw [Agb,findF,findF,ih i f e1 e2]
   exact gen c.fr i _ rfl rfl
  refine⟨h.same (by simp) rfl h.hd (fun j=>?_),?_,fun s=>?_,⟨i,by rw [hfind];exact hf⟩,by simp,⟨rfl,rfl⟩,fun _ s _=>by rw [hfind]⟩
  ·simp only [CD.at,hat]
   by_cases q:j=i
   ·subst q;rw [if_pos rfl];exact⟨rfl,rfl,rfl,fun z=>by rw [CD.at] at h2;rw [h2] at z;cases z⟩
   ·rw [if_neg q];exact⟨rfl,rfl,rfl,fun _=>rfl⟩
  ·rw [(h.vl i h1 h2).2,h3]
  ·simp only [Ct,hfind,CD.at]
   by_cases q:s=k
   ·subst q
    rw [if_pos rfl,hf]
    simp only [hat,if_true]
   ·rw [if_neg q]
    cases hs:findF s c.fr with
    |none=>rfl
    |some j=>
     have hj:j≠i:=by
      rintro rfl
      obtain⟨_,_,g3⟩:=C4 hs
      exact q (g3.symm.trans h3)
     simp only [hat,if_neg hj]
 |none=>
  rw [hf] at hg
  simp only at hg
  unfold EK at hg
  cases hfr:c.free with
  |cons i r=>
   rw [hfr] at hg
   simp only at hg
   cases hg
   have hi:=h.fl i (by rw [hfr];exact Acu ..)
   obtain⟨g1,g2,g3⟩:=h.take (c1:={c with free:=r}) (Em.refl _) h.hd hi hk hf (.inl hfr) _ rfl
   refine⟨g1,rfl,g2,⟨i,g3⟩,by simp,⟨rfl,rfl⟩,fun _ s hs=>?_⟩
   have hnh:(c.at i).held=false:=(h.fh i hi).2 (by rw [hfr];exact Acu ..)
   constructor
   ·intro z
    cases q:findF s c.fr with
    |none=>rfl
    |some j=>
     obtain⟨y1,y2,y3⟩:=C4 q
     have hj:j≠i:=by rintro rfl;rw [hnh] at y2;cases y2
     have e:(c.fr.set i ⟨true,k,1,true,cur k⟩).getD j fz=c.fr.getD j fz:=by rw [at_set hi,if_neg hj]
     have:=g1.find (k:=s) (i:=j) (by simpa using y1) (by simp only [CD.at];rw [e];exact y2) (by simp only [CD.at];rw [e];exact y3)
     rw [this] at z;cases z
   ·intro z
    cases q:findF s (c.fr.set i ⟨true,k,1,true,cur k⟩) with
    |none=>rfl
    |some j=>
     obtain⟨y1,y2,y3⟩:=C4 (c:={c with free:=r,fr:=c.fr.set i ⟨true,k,1,true,cur k⟩}) q
     simp only [CD.at] at y2 y3
     rw [at_set hi] at y2 y3
     by_cases hj:j=i
     ·rw [if_pos hj] at y3;exact absurd y3.symm hs
     ·rw [if_neg hj] at y2 y3
      exact absurd y3 (Gj z (by simpa using y1) y2)
  |nil=>
   rw [hfr] at hg
   simp only at hg
   cases hp:Cf c.fr with
   |true=>rw [hp] at hg;simp only [if_true] at hg;cases hg
   |false=>
    rw [hp] at hg
    simp only [Acj,if_false] at hg
    cases hg
    have hs:=J1 (Dc c.fr c.hand+1) c.fr c.hand
    have hl:=Nw (Dc c.fr c.hand+1) h.hd
    have hpz:=OG _ h.hd hp (Nat.lt_succ_self _)
    obtain⟨g1,g2,g3⟩:=h.take (c1:=⟨(Cn (Dc c.fr c.hand+1) c.fr c.hand).1,[],(Cn (Dc c.fr c.hand+1) c.fr c.hand).2.1,c.hits,c.miss⟩) hs hl.2.2 hl.2.1 hk hf (.inr ⟨hfr,rfl,hpz⟩) _ rfl
    exact⟨g1,rfl,g2,⟨_,g3⟩,by simp [hl.1],⟨rfl,rfl⟩,fun z=>by rcases z with z|z<;>exact absurd rfl z⟩
theorem get_none{cur:Nat→Sec}{N:Nat}{c c':CD}{k:Nat} (_:Inv cur N c) (hg:Er (cur k) c k=(c',none)):c'=c∧findF k c.fr=none∧c.free=[]∧Cf c.fr=true:=by
 unfold Er at hg
 cases hf:findF k c.fr with
 |some i=>rw [hf] at hg;cases hg
 |none=>
  rw [hf] at hg
  simp only at hg
  unfold EK at hg
  cases hfr:c.free with
  |cons i r=>rw [hfr] at hg;cases hg
  |nil=>
   rw [hfr] at hg
   simp only at hg
   cases hp:Cf c.fr with
   |true=>rw [hp] at hg;simp only [if_true] at hg;cases hg;exact⟨rfl,rfl,rfl,rfl⟩
   |false=>rw [hp] at hg;simp only [Acj,if_false] at hg;cases hg
theorem Inv.full{cur:Nat→Sec}{N:Nat}{c:CD} (h:Inv cur N c) (hf:c.free=[]) {S:List Nat} (hS:∀i,i<c.fr.length→(c.at i).sec∈S):c.fr.length≤S.length:=by
 have hheld:∀i,i<c.fr.length→(c.at i).held=true:=fun i hi=>by
  cases q:(c.at i).held with
  |true=>rfl
  |false=>have:=(h.fh i hi).1 q;rw [hf] at this;cases this
 have hn:((Ade c.fr.length).map fun i=>(c.at i).sec).Nodup:=by
  refine List.pairwise_map.2 (List.Pairwise.imp_of_mem (fun{a b} ha hb hne e=>hne ?_) List.nodup_range)
  exact h.ds a b (Afq.1 ha) (Afq.1 hb) (hheld a (Afq.1 ha)) (hheld b (Afq.1 hb)) e
 have:=Hg hn (m:=S) (fun x hx=>by
  obtain⟨i,hi,rfl⟩:=Agl.1 hx
  exact hS i (Afq.1 hi))
 simpa using this
theorem WE{cur:Nat→Sec}{N:Nat}{c:CD}{k:Nat} (h:Inv cur N c) (hp:Ct c k≠0):
  Inv cur N (C3 c k).1∧(C3 c k).2=0∧(∀s,Ct (C3 c k).1 s=if s=k then Ct c s - 1 else Ct c s)∧(C3 c k).1.fr.length=c.fr.length∧(C3 c k).1.hits=c.hits∧(C3 c k).1.miss=c.miss∧(C3 c k).1.free=c.free∧
   ∀s,findF s (C3 c k).1.fr=findF s c.fr:=by
 unfold C3
 cases hf:findF k c.fr with
 |none=>rw [Ct,hf] at hp;exact absurd rfl hp
 |some i=>
  have hpi:(c.fr.getD i fz).pins≠0:=by rw [Ct,hf] at hp;exact hp
  simp only [if_neg hpi]
  obtain⟨h1,h2,h3⟩:=C4 hf
  have hfind:∀s,findF s (c.fr.set i {c.fr.getD i fz with pins:=(c.fr.getD i fz).pins - 1})=findF s c.fr:=by
   intro s
   have gen:∀(l:List Fr) (i:Nat) (f:Fr),f.held=(l.getD i fz).held→f.sec=(l.getD i fz).sec→findF s (l.set i f)=findF s l:=by
    intro l
    induction l with
    |nil=>intro i f _ _;rfl
    |cons g l ih=>
     intro i f e1 e2
     cases i with
     |zero=>simp only [Aey] at e1 e2;rw [List.set_cons_zero,findF,findF,e1,e2]
     |succ i=>simp only [Aeu] at e1 e2;rw [Agb,findF,findF,ih i f e1 e2]
   exact gen c.fr i _ rfl rfl
  refine⟨h.same (by simp) rfl h.hd (fun j=>?_),trivial,fun s=>?_,by simp,trivial,trivial,trivial,hfind⟩
  ·simp only [CD.at,at_set h1]
   by_cases q:j=i
   ·subst q;rw [if_pos rfl];exact⟨rfl,rfl,rfl,fun z=>by rw [CD.at] at h2;rw [h2] at z;cases z⟩
   ·rw [if_neg q];exact⟨rfl,rfl,rfl,fun _=>rfl⟩
  ·simp only [Ct,hfind,CD.at]
   by_cases q:s=k
   ·subst q
    rw [if_pos rfl,hf]
    simp only [at_set h1,if_true]
   ·rw [if_neg q]
    cases hs:findF s c.fr with
    |none=>rfl
    |some j=>
     have hj:j≠i:=by
      rintro rfl
      obtain⟨_,_,g3⟩:=C4 hs
      exact q (g3.symm.trans h3)
     simp only [at_set h1,if_neg hj]
theorem Zo(cur:Nat→Sec) (N n:Nat) (h1:1≤n) (h2:n≤64):Inv cur N ⟨Acr n fz,Ade n,0,0,0⟩:=by
 have hat:∀i,(Acr n fz).getD i fz=fz:=fun i=>by
  rw [Acf,List.getElem?_replicate];split<;>rfl
 exact
 {n1:=by simpa using h1
  n2:=by simpa using h2
  hd:=by simp only [Adn];omega
  fl:=fun i hi=>by simpa using hi
  nd:=List.nodup_range
  fh:=fun i hi=>by simp only [CD.at,hat];simp at hi;simpa [fz] using hi
  ds:=fun i j _ _ hh _ _=>by simp only [CD.at,hat] at hh;cases hh
  vl:=fun i _ hh=>by simp only [CD.at,hat] at hh;cases hh
  pz:=fun i _ _=>by simp only [CD.at,hat];exact⟨rfl,rfl⟩}
theorem M4(n k:Nat):findF k (Acr n fz)=none:=by
 induction n with
 |zero=>rfl
 |succ n ih=>rw [List.replicate_succ,findF,ih];simp [fz]
theorem Inv.held{cur:Nat→Sec}{N:Nat}{c:CD} (h:Inv cur N c):∀i (hi:i<(DT c).length),(DT c)[i]<N∧(∀j (hj:j<i),0≤(DT c)[i]→(DT c)[j]≠(DT c)[i]):=by
 have hlen:(DT c).length=c.fr.length:=by simp [DT]
 have hget:∀i (hi:i<(DT c).length),(DT c)[i]=if (c.at i).held then((c.at i).sec:Int) else -1:=fun i hi=>by
  have e:c.at i=c.fr[i]'(hlen▸hi):=CR _
  rw [e];simp [DT]
 intro i hi
 rw [hget i hi]
 cases q:(c.at i).held with
 |false=>exact⟨by simp only [Acj,if_false];omega,fun j _ z=>by simp at z⟩
 |true=>
  refine⟨by simp only [if_true];have:=(h.vl i (hlen▸hi) q).1;omega,fun j hj _ e=>?_⟩
  rw [hget j (by omega)] at e
  cases q':(c.at j).held with
  |false=>rw [q'] at e;simp at e
  |true=>
   rw [q'] at e
   simp only [if_true] at e
   have:=h.ds j i (by omega) (hlen▸hi) q' q (by omega)
   omega
theorem ZZ{cur:Nat→Sec}{N:Nat}{c:CD} (h:Inv cur N c) {m:Nat} (hp:∀s,Ct c s≤m):∀f∈c.fr,f.pins≤m:=by
 intro f hf
 obtain⟨i,hi,rfl⟩:=Aei hf
 have e:c.at i=c.fr[i]:=CR hi
 cases q:(c.at i).held with
 |true=>have:=R3 h hi q;have:=hp (c.at i).sec;rw [←e];omega
 |false=>have:=(h.pz i hi q).1;rw [e] at this;omega
theorem PH{cur:Nat→Sec}{N:Nat}{c:CD} (h:Inv cur N c) {k i:Nat} (hf:findF k c.fr=some i) (s:Nat):findF s (c.fr.set i fz)=if s=k then none else findF s c.fr:=by
 obtain⟨h1,h2,h3⟩:=C4 hf
 have gen:∀(l:List Fr) (i:Nat),i<l.length→(∀j,j<l.length→j≠i→¬((l.getD j fz).held=true∧(l.getD j fz).sec=k))→(l.getD i fz).sec=k→findF s (l.set i fz)=if s=k then none else findF s l:=by
  intro l
  induction l with
  |nil=>intro i hi;simp at hi
  |cons g l ih=>
   intro i hi hj hk
   cases i with
   |zero=>
    simp only [Aey] at hk
    rw [List.set_cons_zero,findF,if_neg (by simp [fz]),findF]
    by_cases q:s=k
    ·subst q
     rw [if_pos rfl]
     cases hs:findF s l with
     |none=>rfl
     |some j=>
      obtain⟨g1,g2,g3⟩:=EZ hs
      refine absurd ?_ (hj (j+1) (by simpa using g1) (by omega))
      rw [Aeu,CR g1]
      exact⟨g2,g3⟩
    ·rw [if_neg q,if_neg (fun z=>q (z.2.symm.trans hk))]
   |succ i=>
    simp only [Aeu] at hk
    have h0:=hj 0 (by simp) (by omega)
    simp only [Aey] at h0
    rw [Agb,findF,findF,ih i (by simpa using hi) (fun j g1 g2=>by have:=hj (j+1) (by simpa using g1) (by omega);simpa only [Aeu] using this) hk]
    by_cases q:s=k
    ·subst q;rw [if_pos rfl,if_neg h0,if_pos rfl];rfl
    ·rw [if_neg q,if_neg q]
 refine gen c.fr i h1 (fun j hj hne z=>hne ?_) h3
 exact h.ds j i hj h1 z.1 h2 (z.2.trans h3.symm)
theorem SR{cur:Nat→Sec}{N:Nat}{c:CD}{k i:Nat} (h:Inv cur N c) (hf:findF k c.fr=some i) (hp:Ct c k=0):
  C0 c k=({c with fr:=c.fr.set i fz,free:=c.free++[i]},0)∧Inv cur N (C0 c k).1∧(∀s,findF s (C0 c k).1.fr=if s=k then none else findF s c.fr)∧(∀s,Ct (C0 c k).1 s=Ct c s):=by
 obtain⟨h1,h2,h3⟩:=C4 hf
 have hpi:(c.fr.getD i fz).pins=0:=by rw [Ct,hf] at hp;exact hp
 have e:C0 c k=({c with fr:=c.fr.set i fz,free:=c.free++[i]},0):=by unfold C0;rw [hf];simp only;rw [if_neg (by omega)]
 have hni:i∉c.free:=fun z=>by rw [(h.fh i h1).2 z] at h2;cases h2
 rw [e]
 have hat:∀j,(c.fr.set i fz).getD j fz=if j=i then fz else c.fr.getD j fz:=fun j=>at_set h1
 have I:Inv cur N {c with fr:=c.fr.set i fz,free:=c.free++[i]}:=
 {n1:=by simpa using h.n1
  n2:=by simpa using h.n2
  hd:=by simpa using h.hd
  fl:=fun j hj=>by
   simp only [Adg]
   rcases Ack.1 hj with hj|hj
   ·exact h.fl j hj
   ·rw [Acv.1 hj];exact h1
  nd:=by
   rw [Afi]
   exact⟨h.nd,by simp,fun a ha b hb z=>by rw [Acv.1 hb] at z;exact hni (z▸ha)⟩
  fh:=fun j hj=>by
   simp only [Adg] at hj
   simp only [CD.at,hat,Ack,Acv]
   by_cases q:j=i
   ·subst q;simp [fz]
   ·rw [if_neg q]
    have:=h.fh j hj
    simp only [CD.at] at this
    rw [this];simp [q]
  ds:=fun a b ha hb g1 g2 g3=>by
   simp only [Adg] at ha hb
   simp only [CD.at,hat] at g1 g2 g3
   by_cases qa:a=i
   ·rw [if_pos qa] at g1;cases g1
   ·by_cases qb:b=i
    ·rw [if_pos qb] at g2;cases g2
    ·rw [if_neg qa] at g1 g3;rw [if_neg qb] at g2 g3
     exact h.ds a b ha hb g1 g2 g3
  vl:=fun a ha g1=>by
   simp only [Adg] at ha
   simp only [CD.at,hat] at g1⊢
   by_cases qa:a=i
   ·rw [if_pos qa] at g1;cases g1
   ·rw [if_neg qa] at g1⊢;exact h.vl a ha g1
  pz:=fun a ha g1=>by
   simp only [Adg] at ha
   simp only [CD.at,hat] at g1⊢
   by_cases qa:a=i
   ·rw [if_pos qa];exact⟨rfl,rfl⟩
   ·rw [if_neg qa] at g1⊢;exact h.pz a ha g1}
 refine⟨rfl,I,fun s=>PH h hf s,fun s=>?_⟩
 simp only [Ct]
 rw [PH h hf s]
 by_cases q:s=k
 ·subst q;rw [if_pos rfl,hf];exact hpi.symm
 ·rw [if_neg q]
  cases hs:findF s c.fr with
  |none=>rfl
  |some j=>
   obtain⟨g1,g2,g3⟩:=C4 hs
   have hj:j≠i:=by rintro rfl;exact q (g3.symm.trans h3)
   simp only [CD.at,hat,if_neg hj]
theorem Z2{cur:Nat→Sec}{N:Nat}{c:CD}{k i:Nat} (h:Inv cur N c) (hf:findF k c.fr=some i):c.free.length<c.fr.length:=by
 obtain⟨h1,h2,h3⟩:=C4 hf
 have hni:i∉c.free:=fun z=>by rw [(h.fh i h1).2 z] at h2;cases h2
 have:=Hg (l:=i::c.free) (m:=Ade c.fr.length) (Afr.2 ⟨hni,h.nd⟩) (fun x hx=>by
  rcases Adb.1 hx with rfl|hx
  ·exact Afq.2 h1
  ·exact Afq.2 (h.fl x hx))
 simp only [Acs,List.length_range] at this;omega
end Go.Gk.Cch
end
section
namespace Go.Gk.Pgr
open Go Go.Gk Go.Gk.Dev Go.Gk.Cch
structure PD where
 frm:Nat
 kinds:List Int
 fb:Nat→Sec
 syn:List Sec
 round:Nat
 tc:Nat
abbrev PD.kd(s:PD) (i:Nat):Int:=s.kinds.getD i 0
def PD.kind(s:PD) (k:Int):Int:=if (s.frm:Int)≤k∧k<(s.frm:Int)+s.kinds.length then s.kd (k - s.frm).toNat else -1
def El(fb:Nat→Sec) (i:Nat) (b:Sec):Nat→Sec:=fun j=>if j=i then b else fb j
def C2(x:Int):List Int→Option Nat
 |[]=>none
 |y::l=>if x=y then some 0 else(C2 x l).map (·+1)
def PD.G9(s:PD) (i:Nat):PD:={s with kinds:=s.kinds.set i 1,fb:=El s.fb i IF}
def PD.take(s:PD):Option (Nat×PD):=(C2 0 s.kinds).map fun i=>(s.frm+i,s.G9 i)
def PD.put(s:PD) (k:Int) (b:Sec):PD×Int:=if s.kind k=1 then(if b.length=256 then({s with fb:=El s.fb (k - s.frm).toNat b},0) else(s,2)) else(s,240)
def PD.get(s:PD) (k:Int):PD×Option Sec:=
 if s.kind k=1 then({s with tc:=s.tc+1},some (s.fb (k - s.frm).toNat)) else if s.kind k=2 then({s with tc:=s.tc+1},some (s.syn.getD k.toNat [])) else(s,none)
def PD.drop(s:PD) (k:Int):PD×Int:=
 if s.kind k=1 then({s with kinds:=s.kinds.set (k - s.frm).toNat 0},0) else if s.kind k=2 then({s with kinds:=s.kinds.set (k - s.frm).toNat 3},0) else(s,240)
def PD.writes(s:PD):Nat→List (Nat×Sec)
 |0=>[]
 |n+1=>s.writes n++(if s.kd n=1 then [(s.frm+n,s.fb n)] else [])
def PD.flush(s:PD):PD:={s with syn:=synced (s.writes s.kinds.length) s.syn}
def C7(x:Int):Int:=if x=3 then 0 else if x=1 then 2 else x
def PD.done(s:PD):PD:={s with kinds:=s.kinds.map C7,round:=s.round+1}
structure MD where
 kinds:List Int
 fb:Nat→Sec
 round:Nat
def PD.mark(s:PD):MD:=⟨s.kinds,s.fb,s.round⟩
def PD.back(s:PD) (m:MD):PD:={s with kinds:=m.kinds,fb:=m.fb}
def PD.free(s:PD):Nat:=s.kinds.countP (·==0)
def UP(frm:Nat):List Int→Nat→List Int
 |[],_=>[]
 |x::l,i=>if x=2 then((frm+i:Nat):Int)::UP frm l (i+1) else UP frm l (i+1)
def PD.Co(s:PD):List Int:=UP s.frm s.kinds 0
structure Good (s:PD):Prop where
 one:1≤s.kinds.length
 len:s.kinds.length≤8192
 inn:s.frm+s.kinds.length≤s.syn.length
 syn:s.syn.length≤8192
 kd:∀i,0≤s.kd i∧s.kd i≤3
structure Cz (s:PD) (c:CD):Prop where
 inv:Inv (fun k=>s.syn.getD k []) s.syn.length c
 zer:∀k,Ct c k=0
 hold:∀k,findF k c.fr≠none→s.frm≤k∧k<s.frm+s.kinds.length∧2≤s.kd (k - s.frm)
theorem FP{x:Int}:∀{l:List Int}{i:Nat},C2 x l=some i→∃h:i<l.length,l[i]=x
 |y::l,i,h=>by
  rw [C2] at h
  split at h
  ·rename_i e;cases h;exact⟨by simp,by simp [e]⟩
  ·cases q:C2 x l with
   |none=>rw [q] at h;cases h
   |some j=>
    rw [q] at h;cases h
    obtain⟨h1,h2⟩:=FP q
    exact⟨by simpa using h1,by simpa using h2⟩
theorem S0{x:Int}{l:List Int}{i:Nat} (hi:i<l.length):C2 x (l.drop i)=if x=l[i] then some 0 else(C2 x (l.drop (i+1))).map (·+1):=by
 rw [Adi hi];rfl
theorem I7{s:PD}{i:Nat} (h:i<s.kinds.length):s.kd i=s.kinds[i]:=by rw [PD.kd,Acf,Ace h];rfl
theorem C5{l:List Int}{i j:Nat}{x:Int} (hi:i<l.length):(l.set i x).getD j 0=if j=i then x else l.getD j 0:=by
 simp only [Acf,List.getElem?_set]
 by_cases e:i=j
 ·subst e;simp [hi]
 ·rw [if_neg e,if_neg (fun h=>e h.symm)]
theorem CO{s:PD}{k:Int}{x:Int} (h:s.kind k=x) (hx:0≤x):∃i,i<s.kinds.length∧k=((s.frm+i:Nat):Int)∧s.kd i=x∧(k - s.frm).toNat=i:=by
 unfold PD.kind at h
 split at h
 ·rename_i e
  exact⟨(k - s.frm).toNat,by omega,by omega,h,rfl⟩
 ·omega
theorem Mb{s:PD}{i:Nat} (hi:i<s.kinds.length):s.kind ((s.frm+i:Nat):Int)=s.kd i:=by
 unfold PD.kind
 rw [if_pos (by omega)]
 congr 1;omega
theorem Good.kds{s:PD} (h:Good s) {ks:List Int}{i:Nat}{x:Int} (e:ks=s.kinds.set i x) (h0:0≤x) (h3:x≤3):Good {s with kinds:=ks}:=by
 subst e
 refine⟨by simpa using h.one,by simpa using h.len,by simpa using h.inn,h.syn,fun j=>?_⟩
 simp only [PD.kd]
 by_cases hi:i<s.kinds.length
 ·rw [C5 hi]
  split
  ·omega
  ·exact h.kd j
 ·rw [Afh (by omega)];exact h.kd j
def Og(l m:List Int):Prop:=l.length=m.length∧∀i,2≤l.getD i 0↔2≤m.getD i 0
theorem Og.refl(l:List Int):Og l l:=⟨rfl,fun _=>Iff.rfl⟩
theorem Og.trans{a b c:List Int} (h:Og a b) (k:Og b c):Og a c:=⟨h.1.trans k.1,fun i=>(h.2 i).trans (k.2 i)⟩
theorem Og.symm{a b:List Int} (h:Og a b):Og b a:=⟨h.1.symm,fun i=>(h.2 i).symm⟩
theorem Og.set{l:List Int}{i:Nat}{x:Int} (h:2≤x↔2≤l.getD i 0):Og (l.set i x) l:=by
 refine⟨by simp,fun j=>?_⟩
 by_cases hi:i<l.length
 ·rw [C5 hi]
  by_cases e:j=i
  ·subst e;rw [if_pos rfl];exact h
  ·rw [if_neg e]
 ·rw [Afh (by omega)]
theorem Cz.og{s:PD}{c:CD} (h:Cz s c) {ks:List Int} (ho:Og ks s.kinds):Cz {s with kinds:=ks} c:=
 ⟨h.inv,h.zer,fun k hk=>by
  obtain⟨h1,h2,h3⟩:=h.hold k hk
  exact⟨h1,by rw [ho.1];exact h2,(ho.2 _).2 h3⟩⟩
theorem Ve{b b':Sec}{c c':CD}{k:Nat} (hf:∀i∈c.free,i<c.fr.length) (hh:c.hand<c.fr.length) (h:Er b c k=(c',some b')):∃m i f,c'.fr=m.set i f∧Em m c.fr∧i<m.length∧f.sec=k:=by
 unfold Er at h
 cases hq:findF k c.fr with
 |some i=>
  rw [hq] at h
  cases h
  obtain⟨h1,h2,h3⟩:=C4 hq
  exact⟨c.fr,i,_,rfl,Em.refl _,h1,h3⟩
 |none=>
  rw [hq] at h
  simp only at h
  cases hr:EK c with
  |mk c1 o=>
  rw [hr] at h
  cases o with
  |none=>cases h
  |some i=>
   cases h
   have hi:=Ub hh hf hr
   refine⟨c1.fr,i,_,rfl,?_,hi,rfl⟩
   unfold EK at hr
   split at hr
   ·cases hr;exact Em.refl _
   ·split at hr
    ·cases hr
    ·cases hr;exact J1 _ _ _
theorem Zf{cur:Nat→Sec}{N:Nat}{c c':CD}{k:Nat}{b b':Sec} (h:Inv cur N c) (hg:Er b c k=(c',some b')) {s:Nat} (hs:s≠k) (hn:findF s c.fr=none):findF s c'.fr=none:=by
 obtain⟨m,i,f,e1,e2,e3,e4⟩:=Ve h.fl h.hd hg
 cases q:findF s c'.fr with
 |none=>rfl
 |some j=>
  obtain⟨g1,g2,g3⟩:=C4 q
  simp only [CD.at,e1] at g1 g2 g3
  rw [at_set e3] at g2 g3
  by_cases hj:j=i
  ·rw [if_pos hj] at g3;exact absurd (g3.symm.trans e4) hs
  ·rw [if_neg hj] at g2 g3
   rw [(e2.2 j).1] at g2;rw [(e2.2 j).2.1] at g3
   exact absurd g3 (Gj hn (by rw [←e2.1];simpa using g1) g2)
theorem Cz.get{s:PD}{c:CD} (h:Cz s c) {k:Nat} (hk:k<s.syn.length) (h1:s.frm≤k) (h2:k<s.frm+s.kinds.length) (h3:2≤s.kd (k - s.frm)):
  ∃c',Er (s.syn.getD k []) c k=(c',some (s.syn.getD k []))∧Kv c 4611686018427387904∧Kv c' 4611686018427387904∧(C3 c' k).2=0∧Cz s (C3 c' k).1:=by
 have hpb:∀{c:CD}{n:Nat},Inv (fun k=>s.syn.getD k []) s.syn.length c→(∀s,Ct c s≤n)→n≤1000→Kv c 4611686018427387904:=fun hi hz hn f hf=>by
  have:=ZZ hi hz f hf;omega
 cases hr:Er (s.syn.getD k []) c k with
 |mk c' o=>
 cases o with
 |none=>
  obtain⟨-,g2,g3,g4⟩:=get_none (cur:=fun k=>s.syn.getD k []) h.inv hr
  exfalso
  have h0:=h.inv.n1
  have hheld:(c.at 0).held=true:=by
   cases q:(c.at 0).held with
   |true=>rfl
   |false=>have:=(h.inv.fh 0 h0).1 q;rw [g3] at this;cases this
  have e:=R3 h.inv h0 hheld
  rw [h.zer] at e
  have:=Acq.1 g4 _ (Ada h0)
  rw [show c.at 0=c.fr[0] from CR h0] at e
  simp [←e] at this
 |some b'=>
  obtain⟨g1,rfl,g3,g4,g5,g6,g7⟩:=get_some (cur:=fun k=>s.syn.getD k []) h.inv hk hr
  obtain⟨q1,q2,q3,q4,q5,q6,q7,q8⟩:=WE g1 (k:=k) (by rw [g3,if_pos rfl];omega)
  refine⟨c',rfl,hpb h.inv (n:=0) (fun s=>by rw [h.zer];omega) (by omega),hpb g1 (n:=1) (fun s=>by rw [g3,h.zer];split<;>omega) (by omega),q2,q1,fun s=>?_,fun t ht=>?_⟩
  ·rw [q3,g3,h.zer];split<;>omega
  ·rw [q8] at ht
   by_cases e:t=k
   ·subst e;exact⟨h1,h2,h3⟩
   ·exact h.hold t (fun z=>ht (Zf h.inv hr e z))
end Go.Gk.Pgr
namespace Go.Gk.Pgr
open Go Go.Gk Go.Gk.Dev Go.Gk.Cch
theorem get_put{ν:Type}{k k':Int}{v:ν}{c:Nat}:∀{ms:List (Int×ν×Nat)},EG k' (GQ k v c ms)=if k'=k then some v else EG k' ms
 |[]=>by simp [GQ,EG]
 |p::ms=>by
  rw [GQ]
  by_cases e:k=p.1
  ·rw [if_pos e,EG,EG]
   by_cases q:k'=k
   ·rw [if_pos (q.trans e),if_pos q]
   ·rw [if_neg (fun z=>q (z.trans e.symm)),if_neg q,if_neg (fun z=>q (z.trans e.symm))]
  ·rw [if_neg e,EG,get_put,EG]
   by_cases q:k'=p.1
   ·rw [if_pos q,if_pos q,if_neg (fun z=>e (z.symm.trans q))]
   ·rw [if_neg q,if_neg q]
theorem TS{ν:Type}{k k':Int} (h:k'≠k):∀{ms:List (Int×ν×Nat)},EG k' (IH k ms)=EG k' ms
 |[]=>rfl
 |p::ms=>by
  rw [IH]
  by_cases e:k=p.1
  ·rw [if_pos e,EG,if_neg (fun z=>h (z.trans e.symm))]
  ·rw [if_neg e,EG,TS h,EG]
def PD.AV(s:PD):PD×Int×Int:=match C2 0 s.kinds with|some i=>(s.G9 i,((s.frm+i:Nat):Int),0)|none=>(s,0,190)
theorem Cz.to{s s':PD}{c:CD} (h:Cz s c) (h1:s'.frm=s.frm) (h2:s'.syn=s.syn) (ho:Og s'.kinds s.kinds):Cz s' c:=
 ⟨by rw [h2];exact h.inv,h.zer,fun k hk=>by
  obtain⟨q1,q2,q3⟩:=h.hold k hk
  rw [h1,ho.1]
  exact⟨q1,q2,(ho.2 _).2 q3⟩⟩
theorem Good.to{s s':PD} (h:Good s) (h1:s'.frm=s.frm) (h2:s'.syn.length=s.syn.length) {i:Nat}{x:Int} (e:s'.kinds=s.kinds.set i x) (h0:0≤x) (h3:x≤3):Good s':=by
 have g:=h.kds (ks:=s'.kinds) e h0 h3
 exact⟨g.one,g.len,by rw [h1,h2];exact g.inn,by rw [h2];exact g.syn,g.kd⟩
theorem Good.to'{s s':PD} (h:Good s) (h1:s'.frm=s.frm) (h2:s'.syn.length=s.syn.length) (e:s'.kinds=s.kinds):Good s':=
 ⟨by rw [e];exact h.one,by rw [e];exact h.len,by rw [h1,h2,e];exact h.inn,by rw [h2];exact h.syn,fun i=>by rw [PD.kd,e];exact h.kd i⟩
end Go.Gk.Pgr
namespace Go.Gk.Pgr
open Go Go.Gk Go.Gk.Dev Go.Gk.Cch
theorem KI{k:Nat}:∀{l:List (Nat×Sec)}{s:List Sec},(∀w∈l,w.1≠k)→(synced l s).getD k []=s.getD k []
 |[],_,_=>rfl
 |w::l,s,h=>by
  have e:synced (w::l) s=synced l (s.set w.1 w.2):=by simp [synced]
  rw [e,KI (fun w' hw=>h w' (Acy _ hw)),Acf,List.getElem?_set,if_neg (h w (Acu ..)),←Acf]
theorem Jy{s:PD}:∀{n:Nat}{w:Nat×Sec},w∈s.writes n→∃i,i<n∧s.kd i=1∧w=(s.frm+i,s.fb i)
 |n+1,w,h=>by
  rw [PD.writes,Ack] at h
  rcases h with h|h
  ·obtain⟨i,h1,h2⟩:=Jy h
   exact⟨i,by omega,h2⟩
  ·split at h
   ·rename_i e
    rw [Acv] at h
    exact⟨n,by omega,e,h⟩
   ·cases h
theorem NJ{s:PD}:∀{n:Nat},(s.writes n).length≤n
 |0=>Ach _
 |n+1=>by
  have:=NJ (s:=s) (n:=n)
  rw [PD.writes,Acl]
  split<;>simp<;>omega
theorem Inv.Aaf{cur cur':Nat→Sec}{N:Nat}{c:CD} (h:Inv cur N c) (he:∀k,findF k c.fr≠none→cur' k=cur k):Inv cur' N c:=
 {h with vl:=fun i hi hh=>⟨(h.vl i hi hh).1,by rw [(h.vl i hi hh).2,he _ (by rw [h.find hi hh rfl];simp)]⟩}
theorem Cz.flush{s:PD}{c:CD} (h:Cz s c):Cz s.flush c:=by
 refine⟨?_,h.zer,h.hold⟩
 have hl:s.flush.syn.length=s.syn.length:=Ez _ _
 rw [hl]
 refine Inv.Aaf h.inv (fun k hk=>?_)
 obtain⟨h1,h2,h3⟩:=h.hold k hk
 refine KI (fun w hw e=>?_)
 obtain⟨i,h4,h5,rfl⟩:=Jy hw
 simp only at e
 rw [←e,show s.frm+i - s.frm=i by omega] at h3
 omega
theorem Good.flush{s:PD} (h:Good s):Good s.flush:=h.to' rfl (Ez _ _) rfl
def Mid(i:Nat) (l m:List Int):Prop:=m.length=l.length∧∀j,m.getD j 0=if j<i then C7 (l.getD j 0) else l.getD j 0
theorem Mid.zero(l:List Int):Mid 0 l l:=⟨rfl,fun j=>by rw [if_neg (by omega)]⟩
theorem Mid.next{i:Nat}{l m:List Int} (h:Mid i l m) (hi:i<l.length):Mid (i+1) l (m.set i (C7 (l.getD i 0))):=by
 refine⟨by simpa using h.1,fun j=>?_⟩
 rw [C5 (by rw [h.1];exact hi),h.2]
 by_cases e:j=i
 ·subst e;rw [if_pos rfl,if_pos (by omega)]
 ·rw [if_neg e]
  by_cases q:j<i
  ·rw [if_pos q,if_pos (by omega)]
  ·rw [if_neg q,if_neg (by omega)]
theorem Mid.same{i:Nat}{l m:List Int} (h:Mid i l m) (hi:i<l.length) (hs:C7 (l.getD i 0)=l.getD i 0):Mid (i+1) l m:=by
 refine⟨h.1,fun j=>?_⟩
 rw [h.2]
 by_cases e:j=i
 ·subst e;rw [if_neg (by omega),if_pos (by omega),hs]
 ·by_cases q:j<i
  ·rw [if_pos q,if_pos (by omega)]
  ·rw [if_neg q,if_neg (by omega)]
theorem XG{l m:List Int} (h:l.length=m.length) (he:∀j,l.getD j 0=m.getD j 0):l=m:=by
 refine Ahd h (fun j h1 h2=>?_)
 have:=he j
 rwa [Acf,Acf,Ace h1,Ace h2] at this
theorem getD_map{l:List Int}{j:Nat}:(l.map C7).getD j 0=C7 (l.getD j 0):=by
 simp only [Acf,Aep]
 cases l[j]?<;>rfl
theorem Mid.done{i:Nat}{l m:List Int} (h:Mid i l m) (hi:l.length≤i):m=l.map C7:=by
 refine XG (by simpa using h.1) (fun j=>?_)
 rw [h.2,getD_map]
 by_cases e:j<i
 ·rw [if_pos e]
 ·rw [if_neg e,Acf,Adq (by omega)];rfl
theorem Cz.gone{s:PD}{c:CD} (h:Cz s c) {i:Nat} (hi:i<s.kinds.length) (_:s.kd i=3):Cz {s with kinds:=s.kinds.set i 0} (C0 c (s.frm+i)).1:=by
 have key:∀{c':CD},(∀t,findF t c'.fr≠none→t≠s.frm+i∧findF t c.fr≠none)→∀t,findF t c'.fr≠none→s.frm≤t∧t<s.frm+(s.kinds.set i 0).length∧2≤(s.kinds.set i 0).getD (t - s.frm) 0:=fun hh t ht=>by
  obtain⟨h1,h2⟩:=hh t ht
  obtain⟨h3,h4,h5⟩:=h.hold t h2
  refine⟨h3,by simpa using h4,?_⟩
  rw [C5 hi,if_neg (by omega)]
  exact h5
 cases hf:findF (s.frm+i) c.fr with
 |none=>
  have e:(C0 c (s.frm+i)).1=c:=by unfold C0;rw [hf]
  rw [e]
  exact⟨h.inv,h.zer,key (fun t ht=>⟨fun q=>ht (by rw [q];exact hf),ht⟩)⟩
 |some j=>
  obtain⟨-,h2,h3,h4⟩:=SR h.inv hf (h.zer _)
  exact⟨h2,fun t=>by rw [h4];exact h.zer t,key (fun t ht=>by
   rw [h3] at ht
   by_cases e:t=s.frm+i
   ·rw [if_pos e] at ht;exact absurd rfl ht
   ·rw [if_neg e] at ht;exact⟨e,ht⟩)⟩
theorem Cz.AbP{s:PD}{c:CD} (h:Cz s c) {i:Nat} (hi:i<s.kinds.length):Cz {s with kinds:=s.kinds.set i 2} c:=
 ⟨h.inv,h.zer,fun t ht=>by
  obtain⟨h3,h4,h5⟩:=h.hold t ht
  refine⟨h3,by simpa using h4,?_⟩
  simp only [PD.kd]
  rw [C5 hi]
  split
  ·omega
  ·exact h5⟩
end Go.Gk.Pgr
namespace Go.Gk.Pgr
theorem WB{x:Int} (h:0≤x∧x≤3):0≤C7 x∧C7 x≤3:=by
 unfold C7
 by_cases h1:x=3
 ·rw [if_pos h1];omega
 ·rw [if_neg h1]
  by_cases h2:x=1
  ·rw [if_pos h2];omega
  ·rw [if_neg h2];omega
end Go.Gk.Pgr
namespace Go.Gk.Pgr
open Go Go.Gk Go.Gk.Dev Go.Gk.Cch
end Go.Gk.Pgr
namespace Go.Gk.Pgr
open Go Go.Gk Go.Gk.Dev Go.Gk.Cch
def Dt(n:Nat) (l:List Nat):List Int:=l.foldl (fun ks k=>ks.set k 2) (Acr n 0)
theorem UA{n k:Nat}{l:List Nat}:Dt n (l++[k])=(Dt n l).set k 2:=by simp [Dt]
theorem Qj{l:List Nat}:∀{ks:List Int},(l.foldl (fun ks k=>ks.set k 2) ks).length=ks.length:=by
 induction l with
 |nil=>intro ks;rfl
 |cons x l ih=>intro ks;rw [Ags,ih,Adg]
theorem Gc{n:Nat}{l:List Nat}:(Dt n l).length=n:=by rw [Dt,Qj,Adn]
theorem Q3{l:List Nat}{j:Nat}:∀{ks:List Int},j<ks.length→(l.foldl (fun ks k=>ks.set k 2) ks).getD j 0=if j∈l then 2 else ks.getD j 0:=by
 induction l with
 |nil=>intro ks _;simp
 |cons x l ih=>
  intro ks hj
  rw [Ags,ih (by rw [Adg];exact hj)]
  by_cases h:j∈l
  ·rw [if_pos h,if_pos (Acy _ h)]
  ·rw [if_neg h]
   by_cases e:j=x
   ·subst e;rw [C5 hj,if_pos rfl,if_pos (Acu ..)]
   ·rw [if_neg (by simp [e,h])]
    by_cases hx:x<ks.length
    ·rw [C5 hx,if_neg e]
    ·rw [Afh (by omega)]
theorem Jq{n j:Nat}{l:List Nat}:(Dt n l).getD j 0=if j<n∧j∈l then 2 else 0:=by
 by_cases hj:j<n
 ·rw [Dt,Q3 (by rw [Adn];exact hj)]
  by_cases h:j∈l
  ·rw [if_pos h,if_pos ⟨hj,h⟩]
  ·rw [if_neg h,if_neg (fun q=>h q.2),Acf,List.getElem?_replicate];split<;>rfl
 ·rw [if_neg (fun q=>hj q.1),Acf,Adq (by rw [Gc];omega)];rfl
theorem M4{k m:Nat}:findF k (Acr m fz)=none:=by
 cases h:findF k (Acr m fz) with
 |none=>rfl
 |some i=>
  obtain⟨h1,h2, -⟩:=EZ h
  rw [List.getElem_replicate] at h2
  cases h2
theorem Cz.new{s:PD}{m:Nat} (h1:1≤m) (h2:m≤64):Cz s ⟨Acr m fz,Ade m,0,0,0⟩:=
 ⟨Zo _ _ m h1 h2,fun k=>by rw [Ct,M4],fun k hk=>absurd M4 hk⟩
theorem Good.new{frm n:Nat}{l:List Nat}{fb:Nat→Sec}{syn:List Sec} (h1:1≤n) (h2:frm+n≤syn.length) (h3:syn.length≤8192):Good ⟨frm,Dt n l,fb,syn,0,0⟩:=
 ⟨by rw [Gc];exact h1,by rw [Gc];omega,by rw [Gc];exact h2,h3,fun i=>by
  show 0≤(Dt n l).getD i 0∧(Dt n l).getD i 0≤3
  rw [Jq];split<;>decide⟩
end Go.Gk.Pgr
end
section
namespace Go.Gk.Dev
open Go Go.Gk
attribute [local irreducible] gwp gws xwp
def Ei:GB:=(.mk 24 [] (.seq (.g (rG (ol 4 1<|o1 5 (.nilc (tP 4))<|oj 6 1 5<|ol 7 6<|oL 8 7<|ob 9 .sub (tP 8) (kZ 1)<|om 3 9 .done))) (.block 0 (.loop (.seq (.g (sR (om 10 3<|ob 11 .geq (tP 10) (kZ 0) .done) (.cond (tP 11) .skip (.exit 0)))) (.seq (.block 1 (.seq (.yl (om 14 0<|ol 15 1<|o1 16 (.nilc (tP 15))<|oj 17 1 16<|ol 18 17<|om 19 3<|oI 20 257 18 19<|o1 21 (.ld (some 257) (tP 20)) .done) (some 22) (tP 14) [(tP 21)] (o1 23 (.un .not (tP 22)) .done)) (.g (.cond (tP 23) .ret .skip)))) (.g (rG (om 12 3<|ob 13 .sub (tP 12) (kZ 1)<|om 3 13 .done)))))))))
theorem Vf{P:Program}{f:FuncId} (hd:Ff true false P f=some Ei) {D:Et}{v:Value}{LD:List Ac}{bb l:Nat}{rc:Loop} (J:Nat→Ac→List Ac→Prop) (Jf:Loop→Ac→List Ac→Prop) {d:Ac}{E:List Ac}
  (hD:Dv d D v LD) (hb:DC d bb 0 v) (h0:J D.opn.length d E)
  (hround:∀i (hi:i<D.opn.length) d1 E1,Le d d1→J (i+1) d1 E1→Jk P l [.agg (Value.int .i64 D.opn[i].1::D.opn[i].2.map Az).toArray] d1 (sg l (.loop rc)::E1)
   (fun u d' L'=>(u=.bool true∧∃E',L'=sg l (.loop rc)::E'∧J i d' E')∨(u=.bool false∧∃rc' E',L'=sg l (.loop rc')::E'∧Jf rc' d' E'))):
  Aw P f [.func (.yield l) #[] #[],.pointer (some ⟨bb,0,none⟩)] d (LD++(sg l (.loop rc)::E)) (Ret fun _ d' L'=>∃E' rc',L'=LD++(sg l (.loop rc')::E')∧((rc'=rc∧J 0 d' E')∨Jf rc' d' E')):=by
 obtain⟨b,T,vs,vo,r,hs,ho,rfl,rfl,h3,h4,h5,h6⟩:=hD
 have hlen:=h4.BW
 obtain⟨ao,co,rfl⟩:=h4.val
 refine Ew hd (Aca rfl) ?_
 show xwp P _ _ _ _ _
 (apply BK;apply x_g;apply AE;apply Ag;rfl;exact BF (by assumption);apply Av;rfl;apply Ai;rfl;apply Ag;rfl;exact Aj 0 rfl rfl;apply AL;rfl;apply CY;rfl;rfl;omega;omega;apply Ab;rfl;apply Aa;apply Ge)
 refine Pd (α:=Nat) (fun i=>[(0,.func (.yield l) #[] #[]),(1,.pointer (some ⟨bb,0,none⟩)),(3,.int .i64 ((i:Int) - 1))])
  (fun i d' L'=>Le d d'∧i≤D.opn.length∧∃E',L'=[bx b T [vs,.slice ao D.opn.length co,.int .i64 r,.int .i64 0],hs,ho]++(sg l (.loop rc)::E')∧J i d' E') (fun i=>i) D.opn.length
  ⟨rfl,rfl,rfl,trivial⟩ ⟨Le.refl d,Ach _,E,rfl,h0⟩ ?_
 rintro i ρ d1 L1 ⟨hl1,hi,E1,rfl,hJ⟩
 replace hb:=hb.mono hl1
 cases i with
 |zero=>
  (apply BK;apply x_g;apply Ah;apply AE;apply Ab;rfl;apply DL;rfl;rfl;apply Aa;refine Ar rfl (by omega) ?_;apply Bh)
  exact EF [] trivial (Acb _) ⟨E1,rc,rfl,.inl ⟨rfl,hJ⟩⟩
 |succ i=>
  obtain⟨bo,To,lo,co',cs,e1,e2,hcl,hcs,hle,hr, -⟩:=As.at (by omega) h4 (show i<D.opn.length from hi)
  cases e1;subst e2
  obtain⟨rfl,hbl⟩:=hr
  (apply BK;apply x_g;apply Ah;apply AE;apply Ab;rfl;apply DL;rfl;rfl;apply Aa;refine Ay rfl (by omega) ?_;apply Al;apply BK;apply Ge;apply BK;apply XW;apply Fz;rfl;apply Ag;rfl;exact BF (by assumption);apply Av;rfl;apply Ai;rfl;apply Ag;rfl;exact Aj 0 rfl rfl;apply Ab;rfl)
  refine Bx i rfl rfl (by omega) hi ?_
  refine JX _ 2 rfl rfl hcl hcs ?_
  refine FE ⟨d1,(sg l (.loop rc)::E1)++[bx b T [vs,.slice (some ⟨bo,0,none⟩) D.opn.length co,.int .i64 r,.int .i64 0],hs,bx bo To lo],Vs.perm Aci,?_⟩
  refine Pu _ _ rfl rfl rfl (hround i hi d1 E1 hl1 hJ) (fun u d2 L2 hl2 hr2=>?_)
  rcases hr2 with ⟨rfl,E2,rfl,hJ2⟩|⟨rfl,rc2,E2,rfl,hJ2⟩
  ·refine B9 d2 ([bx b T [vs,.slice (some ⟨bo,0,none⟩) D.opn.length co,.int .i64 r,.int .i64 0],hs,bx bo To lo]++(sg l (.loop rc)::E2)) (Vs.perm Aci) ?_
   (refine Bj rfl<|Aa ?_;apply x_g;refine AR rfl<|Al ?_;apply x_g;refine AE<|Ab rfl<|CY rfl rfl (by omega) (by omega)<|Ab rfl<|Aa ?_)
   exact⟨i,by omega,⟨rfl,rfl,int_eq (by omega),trivial⟩,hl1.trans hl2,by omega,E2,rfl,hJ2⟩
  ·refine B9 d2 ([bx b T [vs,.slice (some ⟨bo,0,none⟩) D.opn.length co,.int .i64 r,.int .i64 0],hs,bx bo To lo]++(sg l (.loop rc2)::E2)) (Vs.perm Aci) ?_
   (refine Bj rfl<|Aa ?_;apply x_g;refine Be rfl<|Ao ?_)
   exact EF [] trivial (Acb _) ⟨E2,rc2,rfl,.inr hJ2⟩
def EJ(a0:Nat):AY:=⟨4,[(.tmp 2)],(sR (o1 1 (.box (tP 0))<|o1 2 (.mv (.const .nilFunc)) .done) (sR (o1 3 (.mkf (.func a0) [] [(tP 1)])<|om 2 3 .done) .ret))⟩
theorem Wm{P:Program}{f f1:FuncId} (hd:dec P f=some (EJ f1)) {d:Ac}{b:Nat}:Aw P f [.pointer (some ⟨b,0,none⟩)] d [] (Ret fun r d' L'=>∃bb,r=.func (.func f1) #[] #[.pointer (some ⟨bb,0,none⟩)]∧DC d' bb 0 (.pointer (some ⟨b,0,none⟩))∧L'=[]):=by
 refine AG hd (Aca rfl) ?_
 show gwp P _ _ _ _ _
 (refine Ad ?_)
 refine Fj rfl (fun bb T=>?_)
 (refine AK<|Aa<|Ad<|OA<|Fz rfl<|Aa<|Ao ?_)
 refine Abc rfl (fun d' _ hk=>⟨bb,rfl,?_,rfl⟩)
 exact(Aam (hk _ (Acu ..))).at (i:=0) rfl
def Rf(P:Program) (f:FuncId):Prop:=∃f1,dec P f=some (EJ f1)∧Ff true false P f1=some Ei
theorem Zz{P:Program}{f f1:FuncId} (hd:dec P f=some (EJ f1)) (h:Ff true false P f1=some Ei):Rf P f:=⟨f1,hd,h⟩
def Pb(P:Program) (f:FuncId):Prop:=∀{d:Ac}{D:Et}{v:Value}{L:List Ac}{k:Nat},Dv d D v L→k<D.syn.length→
 Aw P f [v,.int .i64 k] d L (Ret fun r d' L'=>∃u,r=.tuple #[u,.int .i64 0]∧AM d' u (D.cur k)∧Dv d' D v L')
theorem UI{k:Nat}{l:List (Nat×Sec)}{i:Nat} (hi:i<l.length):FG k (l.drop i)=match FG k (l.drop (i+1)) with|some b=>some b|none=>if l[i].1=k then some l[i].2 else none:=by
 rw [Adi hi];rfl
theorem P5{k:Nat}{b:Sec}:∀{l:List (Nat×Sec)},FG k l=some b→∃w∈l,w.2=b
 |w::l,h=>by
  rw [FG] at h
  cases hw:FG k l with
  |some q=>rw [hw] at h;cases h;obtain⟨x,hx,e⟩:=P5 hw;exact⟨x,Acy _ hx,e⟩
  |none=>
   rw [hw] at h
   simp only at h
   split at h
   ·cases h;exact⟨w,Acu ..,rfl⟩
   ·cases h
theorem J7{k:Nat}{b:Sec}:∀{l:List (Nat×Sec)}{i:Nat},FG k (l.drop i)=some b→FG k l=some b
 |_,0,h=>h
 |[],i+1,h=>h
 |w::l,i+1,h=>by
  rw [List.drop_succ_cons] at h
  rw [FG,J7 h]
def JT(a0 a1:Nat):GB:=(.mk 41 [(.tmp 4),(.tmp 5)] (.seq (.g (rG (o1 3 (.box (tP 1))<|o1 4 (.mv nS)<|o1 5 (.mv (kZ 0)) .done))) (.seq (.g (sR (om 9 0<|ol 10 3<|oc 11 a0 [(tP 9),(tP 10),(kZ 256)]<|om 6 11 .done) (sR (om 12 6<|ob 13 .neq (tP 12) (kZ 0) .done) (.cond (tP 13) (sR (om 14 6<|o1 4 (.mv nS)<|om 5 14 .done) .ret) .skip)))) (.seq (.g (rG (om 15 0<|o1 16 (.nilc (tP 15))<|oj 17 2 16<|ol 18 17<|ob 19 .add (tP 18) (kZ 1)<|o1 20 (.nilc (tP 15))<|oj 21 2 20<|o0 (.st 1 (tP 21) (tP 19)) .done))) (.seq (.g (.reg true (pm 22 0<|p1 23 (.nilc (tP 22))<|p1 24 (.fld 0 (tP 23))<|pl 25 24<|pl 26 3<|p1 27 (.idx 256 (tP 25) (tP 26))<|p1 28 (.ld (some 256) (tP 27))<|o1 7 (.alo (.agg CQ.toArray)) (.bar (o0 (.st 256 (tP 7) (tP 28)) .done))))) (.seq (.seq (.g (rG (om 29 0<|oc 30 a1 [(tP 29)] .done))) (.block 0 (.rf (tP 30) [31] (rG (o1 8 (.alo (.agg (Value.int .i64 0::CQ).toArray))<|o0 (.st 257 (tP 8) (tP 31)) .done)) (.block 1 (sR (oj 32 0 8<|ol 33 32<|ol 34 3<|ob 35 .eql (tP 33) (tP 34) .done) (.cond (tP 35) (sR (oj 36 1 8<|o1 37 (.ld (some 256) (tP 36))<|o0 (.st 256 (tP 7) (tP 37)) .done) (.exit 0)) .skip)))))) (.g (sR (o1 38 (.bsl 0 1 [(.int .u8 0)] [])<|o1 39 (.sla 256 1 (tP 7) none none none)<|o1 40 (.app 1 1 [(.int .u8 0)] (tP 38) (tP 39))<|om 4 40<|o1 5 (.mv (kZ 0)) .done) .ret))))))))
theorem XR{P:Program}{f f1 f2:FuncId} (hd:Ff false false P f=some (JT f1 f2)) (h1:H3 P f1) (h2:Rf P f2):Pb P f:=by
 obtain⟨f3,h2,h3⟩:=h2
 intro d D v L k h hk
 have h0:=h
 obtain⟨b,T,vs,vo,r,hs,ho,rfl,rfl,g3,g4,g5,g6⟩:=h
 obtain⟨bs,Ts,ls,cs',us,rfl,rfl,hul,hus,hsle,hrs, -⟩:=As.at (by omega) g3 hk
 obtain⟨rfl,hsl⟩:=hrs
 refine Ew hd (Aca rfl) ?_
 show xwp P _ _ _ _ _
 (apply BK;apply x_g;apply AE)
 refine Fj rfl (fun kb Tk=>?_)
 (refine Am rfl<|Ab rfl<|Aa ?_;apply BK;apply x_g;refine Ad<|Ak rfl<|Ag rfl (Aj 0 rfl rfl) ?_)
 refine B9 d ([bx b T [.slice (some ⟨bs,0,none⟩) D.syn.length cs',vo,.int .i64 r,.int .i64 0],bx bs Ts ls,ho]++[bx kb Tk [.int .i64 k]]) (Vs.pick [1,2,3,0] rfl) ?_
 refine CM (A:=[_,_,_]) (B:=[_]) rfl rfl (h1 (n:=256) h0 hk rfl) ?_
 (refine Ab rfl<|Aa<|Ad<|Ab rfl<|AO rfl rfl<|Aa<|Ar rfl (by omega)<|Al ?_;apply BK;apply x_g;refine AE<|Ak rfl<|Av rfl<|Ai rfl<|Ag rfl (Aj 0 rfl rfl) ?_)
 refine Aa0 rfl rfl (fun r2 _=>?_)
 (refine Av rfl<|Ai rfl ?_)
 refine A0 0 [.slice (some ⟨bs,0,none⟩) D.syn.length cs',vo,.int .i64 r2,.int .i64 0] rfl rfl rfl rfl (Aca rfl) rfl rfl ?_
 have hD:Dv d D (.pointer (some ⟨b,0,none⟩)) [bx b T [.slice (some ⟨bs,0,none⟩) D.syn.length cs',vo,.int .i64 r2,.int .i64 0],bx bs Ts ls,ho]:=⟨b,T,_,vo,r2,_,ho,rfl,rfl,g3,g4,g5,g6⟩
 (apply Aa;apply BK;apply x_g;refine Bv<|Ak rfl<|Av rfl<|Ai rfl<|Ag rfl (Aj 0 rfl rfl)<|Ag rfl (Aj 3 rfl rfl)<|Bx _ rfl rfl rfl (by omega) ?_)
 refine JX _ 1 rfl rfl hul hus ?_
 (refine BV (fun _ _=>B4 ?_))
 rename_i ob Tob
 refine JG 4 rfl rfl rfl hul Dh (CC _) ?_
 (apply Aa)
 refine Abv (fun ρ d2 L2=>Le d d2∧BD ρ [(7,.pointer (some ⟨ob,0,none⟩))]∧L2=[bx b T [.slice (some ⟨bs,0,none⟩) D.syn.length cs',vo,.int .i64 r2,.int .i64 0],bx bs Ts ls,ho,bx kb Tk [.int .i64 k],bx ob Tob ((D.cur k).map Az)]) ?_ ?_
 ·(apply BK;apply x_g;apply AE;apply Ak;rfl)
  refine DD (A:=[]) rfl rfl (Wm h2) (fun u d2 L2 hl2 ⟨bb,e1,e2,e3⟩=>?_)
  subst e1;subst e3
  (apply Aa;apply Ge)
  refine AaC rfl (fun l rc hrec hst hpd=>?_)
  refine Aw.reorder (L1:=[bx b T [.slice (some ⟨bs,0,none⟩) D.syn.length cs',vo,.int .i64 r2,.int .i64 0],bx bs Ts ls,ho]++(sg l (.loop rc)::[bx kb Tk [.int .i64 k],bx ob Tob (D.syn[k].map Az)])) ?_ (Aw.Dr
   (Vf h3 (rc:=rc) (l:=l) (fun i d3 E=>E=[bx kb Tk [.int .i64 k],bx ob Tob (D.syn[k].map Az)]∧FG k (D.opn.drop i)=none)
    (fun rc' d3 E=>rc'={rc with state:=.done,pending:=some (.exit 0)}∧E=[bx kb Tk [.int .i64 k],bx ob Tob ((D.cur k).map Az)]) (hD.mono hl2) e2 ⟨rfl,by rw [Afv];rfl⟩ ?_) ?_)
  ·exact(Aci (l₁:=[_,_,_]) (l₂:=[_])).append_right [_,_]|>.symm
  ·rintro i hi d3 E3 hl3 ⟨rfl,hno⟩
   refine K8 hrec hst rfl ?_
   have hbl:D.opn[i].2.length=256:=by
    obtain⟨bo,To,lo,co',cs,e1,e2,hcl,hcs,hle,hr, -⟩:=As.at (by omega) g4 hi
    exact hr.2
   have hno':=UI (k:=k) hi
   rw [hno] at hno'
   by_cases e:D.opn[i].1=k
   ·(refine AE<|BV (fun _ _=>?_))
    refine JG 0 rfl rfl rfl (by rw [Acs,Adx,hbl]) (by rw [Acs,Dh]) (by rw [Agy,CC];rfl) ?_
    (refine Aa<|Ax<|Ad<|Ai rfl<|Ag rfl (Aj 0 rfl rfl)<|Ag rfl (Aj 1 rfl rfl)<|AJ rfl rfl<|Aa<|Ay rfl (by omega)<|Ad<|Ai rfl ?_)
    refine JX (D.opn[i].2.map Az) 0 rfl rfl (by rw [Adx];exact hbl) (fun j u hu=>by rw [Nat.add_comm];simpa using hu) ?_
    skip
    refine JG 2 rfl rfl rfl (by rw [Adx];exact hbl) (by rw [Adx];exact hsl) (CC _) ?_
    refine FE ⟨_,[_,_],Vs.drop (Acz _ _),?_⟩
    (apply Bh)
    refine Or.inr ⟨rfl,_,_,rfl,rfl,?_⟩
    rw [if_pos e] at hno'
    rw [Et.cur,J7 hno',Afo]
   ·(refine AE<|BV (fun _ _=>?_))
    refine JG 0 rfl rfl rfl (by rw [Acs,Adx,hbl]) (by rw [Acs,Dh]) (by rw [Agy,CC];rfl) ?_
    (refine Aa<|Ax<|Ad<|Ai rfl<|Ag rfl (Aj 0 rfl rfl)<|Ag rfl (Aj 1 rfl rfl) ?_)
    refine B9 d3 [_,_] (Vs.drop (Acz _ _)) ?_
    (refine AJ rfl rfl<|Aa<|Ar rfl (by omega)<|Al ?_)
    rw [if_neg e] at hno'
    exact Or.inl ⟨rfl,_,by rw [Tx hst hpd],rfl,hno'⟩
  ·rintro u d3 L3 hl3 ⟨E',rc',rfl,h⟩
   refine⟨d3,sg l (.loop rc')::([bx b T [.slice (some ⟨bs,0,none⟩) D.syn.length cs',vo,.int .i64 r2,.int .i64 0],bx bs Ts ls,ho]++E'),Vs.perm ((Aci (l₁:=[_,_,_]) (l₂:=[_])).append_right E'|>fun p=>by simpa using p),rc',_,rfl,?_⟩
   rcases h with ⟨rfl,rfl,h⟩|⟨rfl,rfl⟩
   ·refine⟨(by rw [hst];intro q;cases q),?_⟩
    rw [hpd]
    refine⟨hl2.trans hl3,⟨rfl,trivial⟩,?_⟩
    rw [Et.cur,show FG k D.opn=none from h,Option.getD_none,Acf,Ace hk]
    rfl
   ·refine⟨(fun q=>by cases q),?_⟩
    exact⟨hl2.trans hl3,⟨rfl,trivial⟩,rfl⟩
 ·rintro ρ d2 L2 ⟨hl2,hs2,rfl⟩
  refine OI _ hs2 ?_
  have hcl:(D.cur k).length=256:=by
   unfold Et.cur
   cases hw:FG k D.opn with
   |none=>rw [Option.getD_none,Acf,Ace hk];exact hsl
   |some q=>
    obtain⟨w,hm,e⟩:=P5 hw
    obtain⟨i,hi,rfl⟩:=Aei hm
    obtain⟨bo,To,lo,co',cs,e1,e2,hcl,hcs,hle,hr, -⟩:=As.at (by omega) g4 hi
    rw [Afo,←e];exact hr.2
  (apply x_g;apply Ah;apply AE)
  refine Dn (cs:=[]) (by simp) (by simp [Instr.fill,Bp]) (fun b3 T3=>?_)
  refine w_q (v:=.slice (some ⟨ob,0,none⟩) 256 256) rfl ⟨ob,0,0,256,256,rfl,rfl,rfl⟩ ?_
  refine EP (R:=AP) 0 rfl rfl (As.KN (R:=AP) (sz:=1)) rfl (Src.lit (ys:=D.cur k) 5 rfl hcl.symm (by simp) (CC _) (fun i hi=>?_)) (by omega) (by simp;omega) (by simp;omega) (fun v' h' ho'=>?_)
  ·simp only [AP,chunk,Aen,←Ahl,←Ahm]
   rw [Adi hi];rfl
  rw [Adt] at ho'
  (refine AK<|Ab rfl<|Aa<|Ao ?_)
  refine A7 [v',.int .i64 0] ⟨rfl,rfl,trivial⟩ (d':=join d2 h') (L':=[bx b T [.slice (some ⟨bs,0,none⟩) D.syn.length cs',vo,.int .i64 r2,.int .i64 0],bx bs Ts ls,ho]) ?_ ⟨v',rfl,?_,?_⟩
  ·exact Vs.freeze.trans (Vs.drop (Agg [_,_,_] [_,_]))
  ·exact As.rsl (R:=AP) ho' AX (by omega) (Le.AI _ _) (Le.A9 _ _)
  ·exact(hD.mono hl2).mono (Le.AI _ _)
end Go.Gk.Dev
end
section
namespace Go.Gk.Cch
open Go Go.Gk Go.Gk.Dev
attribute [local irreducible] gwp gws xwp
section
def RFr(d:Ac) (cs:List Value) (f:Fr):Prop:=∃a n c,cs=[.bool f.held,.int .i64 f.sec,.int .i64 f.pins,.bool f.late,.slice a n c]∧AM d (.slice a n c) f.b
theorem LO:F7 RFr:=fun hl ⟨a,n,c,h1,h2⟩=>⟨a,n,c,h1,h2.mono hl⟩
def wr(n:Nat):Int:=IntKind.i64.wrap (n:Int)
theorem Zp(n:Nat):IntKind.i64.wrap (wr n+1)=wr (n+1):=by
 simp [wr,IntKind.wrap,IntKind.signed,IntKind.bits];omega
section
variable {P:Program}{pan:List PanicEntry→AS}{Qn:Env→AS}{Ls L:List Ac}{ρ:Env}{d:Ac}{s:GS}{t:Nat}{tk:Bool}
theorem K4{x y:Operand}{n:Nat} (ex:ev ρ x=.int .i64 (wr n)) (ey:ev ρ y=.int .i64 1) (h:gws P pan Qn s Ls (upd ρ t (.int .i64 (wr (n+1)))) d L):
  gws P pan Qn (.op tk ⟨some t,none,.bin .add x y⟩ s) Ls ρ d L:=Dd (by rw [ex,ey];simp [C1,Zp]) h
end
def Ca(d:Ac) (c:CD) (dv cv:Value) (L:List Ac):Prop:=
 ∃b T bf cp cb hf s r bd,cv=.pointer (some ⟨b,0,none⟩)∧dv=.pointer (some ⟨bd,0,none⟩)∧
  L=[bx b T [dv,.slice (some ⟨bf,0,none⟩) c.fr.length cp,.chan (some cb),.int .i64 c.hand,.int .i64 (wr c.hits),.int .i64 (wr c.miss)],hf,sg cb (.chan c.fr.length (c.free.map fun i:Nat=>Value.int .i64 i).toArray false s r false)]∧
  As 5 RFr d (.slice (some ⟨bf,0,none⟩) c.fr.length cp) c.fr hf∧1≤c.fr.length∧c.fr.length≤64∧c.hand<c.fr.length∧∀i∈c.free,i<c.fr.length
theorem Ca.mono{d d':Ac}{c:CD}{dv cv:Value}{L:List Ac} (h:Ca d c dv cv L) (hl:Le d d'):Ca d' c dv cv L:=
 let ⟨b,T,bf,cp,cb,hf,s,r,bd,h1,h2,h3,h4,h5⟩:=h
 ⟨b,T,bf,cp,cb,hf,s,r,bd,h1,h2,h3,As.mono (R:=RFr) LO h4 hl,h5⟩
theorem Ca.mk{d:Ac}{c:CD}{b bf cp cb s r bd n:Nat}{T:TypeId}{hf:Ac} (hn:c.fr.length=n) (hg:As 5 RFr d (.slice (some ⟨bf,0,none⟩) n cp) c.fr hf) (h1:1≤n) (h2:n≤64) (h3:c.hand<n) (h4:∀i∈c.free,i<n):
  Ca d c (.pointer (some ⟨bd,0,none⟩)) (.pointer (some ⟨b,0,none⟩)) [bx b T [.pointer (some ⟨bd,0,none⟩),.slice (some ⟨bf,0,none⟩) n cp,.chan (some cb),.int .i64 c.hand,.int .i64 (wr c.hits),.int .i64 (wr c.miss)],hf,
   sg cb (.chan n (c.free.map fun i:Nat=>Value.int .i64 i).toArray false s r false)]:=by
 subst hn
 exact⟨b,T,bf,cp,cb,hf,s,r,bd,rfl,rfl,rfl,hg,h1,h2,h3,h4⟩
def HK(P:Program) (f:FuncId):Prop:=∀{d:Ac}{b bd:Nat}{T:TypeId}{l:List Value},CW P f [.pointer (some ⟨b,0,none⟩)] d [bx b T (.pointer (some ⟨bd,0,none⟩)::l)] (.bool false)
def Km:AY:=⟨12,[(.tmp 2)],(sR (o1 2 (.mv (.const (.bool false))) .done) (sR (om 3 0<|o1 4 (.eqp false (tP 3) (.const (.pointer none)))<|om 5 4<|gF 6 5 0<|oF 7 5 (.nilc (tP 6))<|oF 8 5 (.fld 0 (tP 7))<|oF 9 5 (.ld none (tP 8))<|oF 10 5 (.eqp false (tP 9) (.const (.pointer none)))<|o1 11 (.pick (tP 5) (.const (.bool true)) (tP 10))<|om 2 11 .done) .ret))⟩
theorem Xg{P:Program}{f:FuncId} (hd:dec P f=some Km):HK P f:=by
 intro d b bd T l
 refine AG hd (Aca rfl) ?_
 show gwp P _ _ _ _ _
 (refine Ad<|Ae rfl<|Aa<|Ad<|Ak rfl<|Cu rfl rfl<|Ae rfl<|Af rfl<|Ak rfl<|Af rfl<|Av rfl<|Af rfl<|Ai rfl<|Af rfl<|Ag rfl (Aj 0 rfl rfl)<|Af rfl<|Cu rfl rfl<|Aq rfl rfl<|Ae rfl<|Aa<|Ao ?_)
 exact JI rfl (Acb _)
def Jg(P:Program) (f:FuncId):Prop:=∀{d:Ac}{b bf cp:Nat}{T:TypeId}{x0 x1 x2 x3 x4:Value}{hf:Ac}{fs:List Fr}{k:Nat},As 5 RFr d (.slice (some ⟨bf,0,none⟩) fs.length cp) fs hf→
 CW P f [.pointer (some ⟨b,0,none⟩),.int .i64 k] d [bx b T [x0,.slice (some ⟨bf,0,none⟩) fs.length cp,x1,x2,x3,x4],hf]
  (match findF k fs with|some i=>.tuple #[.pointer (some ⟨bf,i*5,none⟩),.int .i64 i]|none=>.tuple #[.pointer none,.int .i64 0])
def Kt:AY:=⟨43,[(.tmp 4),(.tmp 5)],(sR (o1 4 (.mv (.const (.pointer none)))<|o1 5 (.mv (kZ 0)) .done) (.seq (sR (om 7 0<|o1 8 (.nilc (tP 7))<|oj 9 1 8<|ol 10 9<|oL 11 10<|o1 12 (.mv (kZ 0)) .done) (.block 0 (.loop (sR (ob 13 .lss (tP 12) (tP 11) .done) (.seq (.cond (tP 13) .skip (.exit 0)) (.seq (.block 1 (sR (om 14 12<|om 6 14 .done) (sR (om 15 0<|o1 16 (.nilc (tP 15))<|oj 17 1 16<|ol 18 17<|om 19 6<|oI 20 5 18 19<|oj 21 0 20<|ol 22 21<|om 23 22<|gT 24 23 0<|oT 25 23 (.nilc (tP 24))<|oT 26 23 (.fld 1 (tP 25))<|oT 27 23 (.ld none (tP 26))<|gT 28 23 6<|oT 29 23 (.idx 5 (tP 27) (tP 28))<|oT 30 23 (.fld 1 (tP 29))<|oT 31 23 (.ld none (tP 30))<|gT 32 23 1<|oT 33 23 (.bin .eql (tP 31) (tP 32))<|gP 34 23 33 .done) (.cond (tP 34) (sR (om 35 0<|o1 36 (.nilc (tP 35))<|oj 37 1 36<|ol 38 37<|om 39 6<|oI 40 5 38 39<|om 41 6<|om 4 40<|om 5 41 .done) .ret) .skip)))) (rG (ob 42 .add (tP 12) (kZ 1)<|om 12 42 .done)))))))) (sR (o1 4 (.mv (.const (.pointer none)))<|o1 5 (.mv (kZ 0)) .done) .ret)))⟩
theorem Xt{P:Program}{f:FuncId} (hd:dec P f=some Kt):Jg P f:=by
 intro d b bf cp T x0 x1 x2 x3 x4 hf fs k h
 have hlen:=h.BW
 refine AG hd (Aca rfl) ?_
 show gwp P _ _ _ _ _
 (refine Ad<|Ak rfl<|Ab rfl<|Aa<|Ah<|Ad<|Ak rfl<|Av rfl<|Ai rfl<|Ag rfl (Aj 0 rfl rfl)<|AL rfl<|Ab rfl<|Aa<|Ax ?_)
 refine CZ (α:=Nat) (fun i=>[(0,.pointer (some ⟨b,0,none⟩)),(1,.int .i64 k),(11,.int .i64 fs.length),(12,.int .i64 i)]) (fun _=>[bx b T [x0,.slice (some ⟨bf,0,none⟩) fs.length cp,x1,x2,x3,x4],hf])
  (fun i=>i≤fs.length∧findF k fs=(findF k (fs.drop i)).map (·+i)) (fun i=>fs.length - i) 0 ⟨rfl,rfl,rfl,rfl,trivial⟩ rfl ⟨by omega,by simp⟩ ?_
 rintro i ρ ⟨hi,hF⟩
 by_cases e:i<fs.length
 ·obtain⟨b1,T1,l1,c1,cs,q1,rfl,hcl,hcs,hle,⟨a,n,c,rfl,hb⟩, -⟩:=As.at (by omega) h e
  cases q1
  have c0:=hcs 0 _ rfl
  have c1:=hcs 1 _ rfl
  rw [Up e] at hF
  have hnext:¬(fs[i].held=true∧fs[i].sec=k)→findF k fs=(findF k (fs.drop (i+1))).map (·+(i+1)):=fun q=>by
   rw [hF,if_neg q,Option.map_map];congr 1;funext x;simp only [Function.comp];omega
  cases hh:fs[i].held with
  |false=>
   rw [hh] at c0
   (refine Ad<|AA rfl rfl<|Aa<|Ah<|Ay rfl (by omega)<|Al<|Ah<|Ax<|Ad<|Ab rfl<|Ab rfl<|Aa<|Ad<|Ak rfl<|Av rfl<|Ai rfl<|Ag rfl (Aj 0 rfl rfl)<|Ab rfl<|Bx _ rfl rfl rfl (by omega)<|Ai rfl<|Ag rfl (Aj 1 rfl (by assumption))<|Ae rfl<|An rfl<|An rfl<|An rfl<|An rfl<|An rfl<|An rfl<|An rfl<|An rfl<|An rfl<|An rfl<|Aq rfl rfl<|Aa<|AR rfl<|Al<|AE<|AN rfl rfl (by omega) (by omega)<|Ab rfl<|Aa ?_)
   exact⟨i+1,by omega,⟨rfl,rfl,rfl,rfl,trivial⟩,rfl,rfl,e,hnext (by rw [hh];rintro⟨q,_⟩;cases q)⟩
  |true=>
   rw [hh] at c0
   by_cases hs:fs[i].sec=k
   ·(refine Ad<|AA rfl rfl<|Aa<|Ah<|Ay rfl (by omega)<|Al<|Ah<|Ax<|Ad<|Ab rfl<|Ab rfl<|Aa<|Ad<|Ak rfl<|Av rfl<|Ai rfl<|Ag rfl (Aj 0 rfl rfl)<|Ab rfl<|Bx _ rfl rfl rfl (by omega)<|Ai rfl<|Ag rfl (Aj 1 rfl (by assumption))<|Ae rfl<|Af rfl<|Ak rfl<|Af rfl<|Av rfl<|Af rfl<|Ai rfl<|Af rfl<|Ag rfl (Aj 0 rfl rfl)<|Af rfl<|Ab rfl<|Af rfl<|Bx _ rfl rfl rfl (by omega)<|Af rfl<|Ai rfl<|Af rfl<|Ag rfl (Aj 1 rfl (by assumption))<|Af rfl<|Ab rfl<|Af rfl<|AJ rfl rfl<|AB rfl rfl<|Aa<|Ay rfl (by omega)<|Ad<|Ak rfl<|Av rfl<|Ai rfl<|Ag rfl (Aj 0 rfl rfl)<|Ab rfl<|Bx _ rfl rfl rfl (by omega)<|Ab rfl<|Ak rfl<|Ab rfl<|Aa<|Ao ?_)
    rw [show findF k fs=some i by rw [hF,if_pos ⟨hh,hs⟩,Aeq,Aeh]]
    exact YI rfl rfl (Acb _)
   ·(refine Ad<|AA rfl rfl<|Aa<|Ah<|Ay rfl (by omega)<|Al<|Ah<|Ax<|Ad<|Ab rfl<|Ab rfl<|Aa<|Ad<|Ak rfl<|Av rfl<|Ai rfl<|Ag rfl (Aj 0 rfl rfl)<|Ab rfl<|Bx _ rfl rfl rfl (by omega)<|Ai rfl<|Ag rfl (Aj 1 rfl (by assumption))<|Ae rfl<|Af rfl<|Ak rfl<|Af rfl<|Av rfl<|Af rfl<|Ai rfl<|Af rfl<|Ag rfl (Aj 0 rfl rfl)<|Af rfl<|Ab rfl<|Af rfl<|Bx _ rfl rfl rfl (by omega)<|Af rfl<|Ai rfl<|Af rfl<|Ag rfl (Aj 1 rfl (by assumption))<|Af rfl<|Ab rfl<|Af rfl<|AJ rfl rfl<|AB rfl rfl<|Aa<|Ar rfl (by omega)<|Al<|AE<|AN rfl rfl (by omega) (by omega)<|Ab rfl<|Aa ?_)
    exact⟨i+1,by omega,⟨rfl,rfl,rfl,rfl,trivial⟩,rfl,rfl,e,hnext (by rintro⟨_,q⟩;exact hs q)⟩
 ·(refine Ad<|AA rfl rfl<|Aa<|Ah<|Ar rfl (by omega)<|Bh<|Ad<|Ak rfl<|Ab rfl<|Aa<|Ao ?_)
  have:findF k fs=none:=by
   rw [hF,Aex (by omega)];rfl
  rw [this]
  exact YI rfl rfl (Acb _)
def KQ(P:Program) (f:FuncId):Prop:=∀{d:Ac}{b bf cp:Nat}{T:TypeId}{x0 x1 x2 x3 x4:Value}{hf:Ac}{fs:List Fr},As 5 RFr d (.slice (some ⟨bf,0,none⟩) fs.length cp) fs hf→
 CW P f [.pointer (some ⟨b,0,none⟩)] d [bx b T [x0,.slice (some ⟨bf,0,none⟩) fs.length cp,x1,x2,x3,x4],hf] (.bool (Cf fs))
theorem RK{fs:List Fr}{i:Nat} (hi:i<fs.length) (h:fs[i].pins=0):Cf fs=false:=by
 unfold Cf;rw [List.all_eq_false];exact⟨_,Ada hi,by simp [h]⟩
def JE:AY:=⟨18,[(.tmp 2)],(sR (o1 2 (.mv (.const (.bool false))) .done) (.seq (sR (om 5 0<|o1 6 (.nilc (tP 5))<|oj 7 1 6<|ol 8 7<|oL 9 8<|o1 10 (.mv (kZ 0)) .done) (.block 0 (.loop (sR (ob 11 .lss (tP 10) (tP 9) .done) (.seq (.cond (tP 11) .skip (.exit 0)) (.seq (.block 1 (sR (oI 12 5 8 10<|o1 13 (.ld (some 5) (tP 12))<|o1 4 (.alo (.agg #[(.bool false),(.int .i64 0),(.int .i64 0),(.bool false),(.slice none 0 0)]))<|o0 (.st 5 (tP 4) (tP 13)) .done) (sR (oj 14 2 4<|ol 15 14<|ob 16 .eql (tP 15) (kZ 0) .done) (.cond (tP 16) (sR (o1 2 (.mv (.const (.bool false))) .done) .ret) .skip)))) (rG (ob 17 .add (tP 10) (kZ 1)<|om 10 17 .done)))))))) (sR (o1 2 (.mv (.const (.bool true))) .done) .ret)))⟩
theorem UY{P:Program}{f:FuncId} (hd:dec P f=some JE):KQ P f:=by
 intro d b bf cp T x0 x1 x2 x3 x4 hf fs h
 have hlen:=h.BW
 refine AG hd (Aca rfl) ?_
 show gwp P _ _ _ _ _
 (refine Ad<|Ae rfl<|Aa<|Ah<|Ad<|Ak rfl<|Av rfl<|Ai rfl<|Ag rfl (Aj 0 rfl rfl)<|AL rfl<|Ab rfl<|Aa<|Ax ?_)
 refine CZ (α:=Nat) (fun i=>[(8,.slice (some ⟨bf,0,none⟩) fs.length cp),(9,.int .i64 fs.length),(10,.int .i64 i)]) (fun _=>[bx b T [x0,.slice (some ⟨bf,0,none⟩) fs.length cp,x1,x2,x3,x4],hf])
  (fun i=>i≤fs.length∧Cf (fs.take i)=true) (fun i=>fs.length - i) 0 ⟨rfl,rfl,rfl,trivial⟩ rfl ⟨by omega,by simp [Cf]⟩ ?_
 rintro i ρ ⟨hi,hF⟩
 by_cases e:i<fs.length
 ·obtain⟨b1,T1,l1,c1,cs,q1,rfl,hcl,hcs,hle,⟨a,n,c,rfl,hb⟩, -⟩:=As.at (by omega) h e
  cases q1
  (refine Ad<|AA rfl rfl<|Aa<|Ah<|Ay rfl (by omega)<|Al<|Ah<|Ax<|Ad<|Bx _ rfl rfl rfl (by omega) ?_)
  refine JX _ 1 rfl rfl hcl hcs ?_
  (apply BV;intro _ _)
  refine JG 0 rfl rfl rfl rfl rfl rfl ?_
  by_cases hp:fs[i].pins=0
  ·(refine Aa<|Ad<|Ai rfl<|Ag rfl (Aj 0 rfl rfl)<|AJ rfl rfl<|Aa<|Ay rfl (by omega)<|Ad<|Ae rfl<|Aa<|Ao ?_)
   refine BG rfl (L':=[_,_]) (Acz _ _) ⟨?_,rfl,rfl⟩
   rw [RK e hp];rfl
  ·(refine Aa<|Ad<|Ai rfl<|Ag rfl (Aj 0 rfl rfl) ?_)
   refine B9 d [_,_] (Vs.drop (Acz _ _)) ?_
   (refine AJ rfl rfl<|Aa<|Ar rfl (by omega)<|Al<|AE<|AN rfl rfl (by omega) (by omega)<|Ab rfl<|Aa ?_)
   refine⟨i+1,by omega,⟨rfl,rfl,rfl,trivial⟩,rfl,rfl,e,?_⟩
   rw [Acx e]
   unfold Cf at hF⊢
   rw [List.all_append,hF]
   simp [hp]
 ·(refine Ad<|AA rfl rfl<|Aa<|Ah<|Ar rfl (by omega)<|Bh<|Ad<|Ae rfl<|Aa<|Ao ?_)
  rw [Aec (by omega)] at hF
  rw [hF]
  exact JI rfl (Acb _)
def NF(P:Program) (f:FuncId):Prop:=∀{d:Ac}{c:CD}{dv cv:Value}{L:List Ac},Ca d c dv cv L→(∀f∈c.fr,f.pins≤4611686018427387904)→
 Aw P f [cv] d L (Ret fun r d' L'=>d'=d∧(Cf c.fr=true→r=.tuple #[.int .i64 0,.bool false]∧L'=L)∧
  (Cf c.fr=false→r=.tuple #[.int .i64 (Cn (Dc c.fr c.hand+1) c.fr c.hand).2.2,.bool true]∧Ca d {c with fr:=(Cn (Dc c.fr c.hand+1) c.fr c.hand).1,hand:=(Cn (Dc c.fr c.hand+1) c.fr c.hand).2.1} dv cv L'))
theorem Ix{l:List Fr}{h:Nat} (hh:h<l.length):l.getD h fz=l[h]:=by rw [Acf,Ace hh];rfl
def Kf(a0:Nat):AY:=⟨47,[(.tmp 2),(.tmp 3)],(sR (o1 2 (.mv (kZ 0))<|o1 3 (.mv (.const (.bool false))) .done) (.seq (sR (om 6 0<|oc 7 a0 [(tP 6)] .done) (.cond (tP 7) (sR (o1 2 (.mv (kZ 0))<|o1 3 (.mv (.const (.bool false))) .done) .ret) .skip)) (.block 0 (.loop (.block 1 (sR (om 8 0<|o1 9 (.nilc (tP 8))<|oj 10 3 9<|ol 11 10<|om 4 11 .done) (.seq (.reg true (pm 12 0<|pm 13 0<|p1 14 (.nilc (tP 13))<|p1 15 (.fld 3 (tP 14))<|pm 18 0<|p1 19 (.nilc (tP 18))<|p1 20 (.fld 1 (tP 19)) (.alt ⟨(some 16),none,(.ld none (tP 15))⟩ (p1 17 (.bin .add (tP 16) (kZ 1)) (ol 21 20 (p1 22 (.len (tP 21)) (p1 23 (.bin .rem (tP 17) (tP 22)) (p1 24 (.nilc (tP 12)) (p1 25 (.fld 3 (tP 24)) (o0 (.st 1 (tP 25) (tP 23)) .done))))))) (ol 21 20 (p1 22 (.len (tP 21)) (ol 16 15 (p1 17 (.bin .add (tP 16) (kZ 1)) (p1 23 (.bin .rem (tP 17) (tP 22)) (p1 24 (.nilc (tP 12)) (p1 25 (.fld 3 (tP 24)) (o0 (.st 1 (tP 25) (tP 23)) .done))))))))))) (sR (om 26 0<|o1 27 (.nilc (tP 26))<|oj 28 1 27<|ol 29 28<|om 30 4<|oI 31 5 29 30<|om 5 31 .done) (.block 2 (sR (om 34 5<|o1 35 (.nilc (tP 34))<|oj 36 2 35<|ol 37 36<|ob 38 .gtr (tP 37) (kZ 0)<|om 33 38 .done) (.cond (tP 33) .skip (sR (om 40 5<|o1 41 (.nilc (tP 40))<|oj 42 3 41<|ol 43 42<|om 39 43 .done) (.cond (tP 39) (rG (om 44 5<|o1 45 (.nilc (tP 44))<|oj 46 3 45<|o0 (.st 1 (tP 46) (.const (.bool false))) .done)) (sR (om 32 4<|om 2 32<|o1 3 (.mv (.const (.bool true))) .done) .ret))))))))))))))⟩
theorem Ws{P:Program}{f f1:FuncId} (hd:dec P f=some (Kf f1)) (h1:KQ P f1):NF P f:=by
 intro d c dv cv L h hpb
 obtain⟨b,T,bf,cp,cb,hf,s,r,bd,rfl,rfl,rfl,hg,hl1,hl2,hh,hfr⟩:=h
 refine AG hd (Aca rfl) ?_
 show gwp P _ _ _ _ _
 (refine Ad<|Ab rfl<|Ae rfl<|Aa<|Ah<|Ad<|Ak rfl ?_)
 refine CM (A:=[_,_]) (B:=[_]) rfl rfl (h1 hg) ?_
 cases hp:Cf c.fr with
 |true=>
  (refine Aa<|Be rfl<|Ad<|Ab rfl<|Ae rfl<|Aa<|Ao ?_)
  exact CF rfl rfl (Acb _) ⟨rfl,fun _=>⟨rfl,rfl⟩,fun q=>by cases q⟩
 |false=>
  (refine Aa<|AR rfl<|Al<|Ax ?_)
  refine CI (α:=List Fr×Nat×Ac) (fun x=>[(0,.pointer (some ⟨b,0,none⟩))])
   (fun x d' L'=>d'=d∧x.1.length=c.fr.length∧x.2.1<c.fr.length∧Cf x.1=false∧(∀f∈x.1,f.pins≤4611686018427387904)∧Cn (Dc x.1 x.2.1+1) x.1 x.2.1=Cn (Dc c.fr c.hand+1) c.fr c.hand∧
    L'=[bx b T [.pointer (some ⟨bd,0,none⟩),.slice (some ⟨bf,0,none⟩) c.fr.length cp,.chan (some cb),.int .i64 x.2.1,.int .i64 (wr c.hits),.int .i64 (wr c.miss)],x.2.2,sg cb (.chan c.fr.length (c.free.map fun i:Nat=>Value.int .i64 i).toArray false s r false)]∧
    As 5 RFr d (.slice (some ⟨bf,0,none⟩) c.fr.length cp) x.1 x.2.2) (fun x=>Dc x.1 x.2.1) (c.fr,c.hand,hf) ⟨rfl,trivial⟩ ⟨rfl,rfl,hh,hp,hpb,rfl,rfl,hg⟩ ?_
  rintro⟨fs,hand,hf'⟩ ρ d' L' ⟨rfl,hlen,hhand,hpin,hpb',hsw,rfl,hg'⟩
  simp only at hlen hhand hpin hpb' hsw hg'⊢
  rw [←hlen] at hg'
  obtain⟨b1,T1,l1,c1,cs,q1,rfl,hcl,hcs,hle,⟨a,n,c',rfl,hb⟩,hset⟩:=As.at (by omega) hg' (show hand<fs.length by omega)
  cases q1
  have c2:=hcs 2 _ rfl
  have c3:=hcs 3 _ rfl
  have hgd:fs.getD hand fz=fs[hand]:=Ix (by omega)
  (refine Ax<|Ad ?_)
  (refine Ak rfl<|Av rfl<|Ai rfl<|Ag rfl (Aj 0 rfl rfl)<|Ab rfl<|Aa ?_)
  refine FX (fun ρ d2 L'=>BD ρ [(0,.pointer (some ⟨b,0,none⟩)),(4,.int .i64 hand)]∧d2=d'∧L'=[bx b T [.pointer (some ⟨bd,0,none⟩),.slice (some ⟨bf,0,none⟩) c.fr.length cp,.chan (some cb),.int .i64 (Cs fs hand:Nat),.int .i64 (wr c.hits),.int .i64 (wr c.miss)],bx bf T1 l1,sg cb (.chan c.fr.length (c.free.map fun i:Nat=>Value.int .i64 i).toArray false s r false)]) ?_ ?_
  ·refine Br [] _ rfl ?_
   have en:((hand:Int)+1) % (c.fr.length:Int)=(Cs fs hand:Nat):=by unfold Cs;rw [hlen];simp
   (refine Ak rfl<|Ak rfl<|Av rfl<|Ai rfl<|Ak rfl<|Av rfl<|Ai rfl ?_)
   refine EB ?_ ?_
   ·(refine Ag rfl (Aj 0 rfl rfl)<|AN rfl rfl (by omega) (by omega)<|Ag rfl (Aj 0 rfl rfl)<|AL rfl<|YU rfl rfl (by omega) (by omega)<|Av rfl<|Ai rfl ?_)
    refine A0 0 [.pointer (some ⟨bd,0,none⟩),.slice (some ⟨bf,0,none⟩) c.fr.length cp,.chan (some cb),.int .i64 (Cs fs hand:Nat),.int .i64 (wr c.hits),.int .i64 (wr c.miss)] rfl rfl rfl rfl (Aca rfl) rfl (by rw [←en];rfl) ?_
    exact Aa ⟨⟨rfl,rfl,trivial⟩,rfl,rfl⟩
   ·(refine Ag rfl (Aj 0 rfl rfl)<|AL rfl<|Ag rfl (Aj 0 rfl rfl)<|AN rfl rfl (by omega) (by omega)<|YU rfl rfl (by omega) (by omega)<|Av rfl<|Ai rfl ?_)
    refine A0 0 [.pointer (some ⟨bd,0,none⟩),.slice (some ⟨bf,0,none⟩) c.fr.length cp,.chan (some cb),.int .i64 (Cs fs hand:Nat),.int .i64 (wr c.hits),.int .i64 (wr c.miss)] rfl rfl rfl rfl (Aca rfl) rfl (by rw [←en];rfl) ?_
    exact Aa ⟨⟨rfl,rfl,trivial⟩,rfl,rfl⟩
  ·rintro ρ d2 L2 ⟨hs2,rfl,rfl⟩
   refine Dl _ hs2 ?_
   by_cases hp0:fs[hand].pins=0
   ·cases hla:fs[hand].late with
    |false=>
     rw [hla] at c3
     have ht:Bz fs hand=true:=by unfold Bz;rw [hgd,hp0,hla];rfl
     (refine Ad<|Ak rfl<|Av rfl<|Ai rfl<|Ag rfl (Aj 0 rfl rfl)<|Ab rfl<|Bx _ rfl rfl rfl (by omega)<|Ak rfl<|Aa<|Ax<|Ad<|Ak rfl<|Av rfl<|Ai rfl<|Ag rfl (Aj 1 rfl (by assumption))<|BS rfl rfl<|Ae rfl<|Aa<|Ar rfl (by omega)<|Ad<|Ak rfl<|Av rfl<|Ai rfl<|Ag rfl (Aj 1 rfl (by assumption))<|Ae rfl<|Aa<|AR rfl<|Ad<|Ab rfl<|Ab rfl<|Ae rfl<|Aa<|Ao ?_)
     have hres:Cn (Dc c.fr c.hand+1) c.fr c.hand=(fs,Cs fs hand,hand):=by rw [←hsw,Cn,ht];rfl
     rw [hres]
     refine CF rfl rfl (Acb _) ⟨rfl,(fun q=>nomatch q),fun _=>⟨rfl,?_⟩⟩
     refine⟨b,T,bf,cp,cb,_,s,r,bd,rfl,rfl,?_,hg',by simp only;omega,by simp only;omega,Afn _ (by omega),by rw [hlen];exact hfr⟩
     simp only [hlen]
    |true=>
     rw [hla] at c3
     have ht:Bz fs hand=false:=by unfold Bz;rw [hgd,hp0,hla];rfl
     have hpass:Dq fs hand=fs.set hand {fs[hand] with late:=false}:=by rw [Dq,hgd,if_pos hp0]
     have hg2:=hset [.bool fs[hand].held,.int .i64 fs[hand].sec,.int .i64 fs[hand].pins,.bool false,.slice a n c'] {fs[hand] with late:=false} rfl ⟨a,n,c',rfl,hb⟩
     rw [←hpass] at hg2
     (refine Ad<|Ak rfl<|Av rfl<|Ai rfl<|Ag rfl (Aj 0 rfl rfl)<|Ab rfl<|Bx _ rfl rfl rfl (by omega)<|Ak rfl<|Aa<|Ax<|Ad<|Ak rfl<|Av rfl<|Ai rfl<|Ag rfl (Aj 1 rfl (by assumption))<|BS rfl rfl<|Ae rfl<|Aa<|Ar rfl (by omega)<|Ad<|Ak rfl<|Av rfl<|Ai rfl<|Ag rfl (Aj 1 rfl (by assumption))<|Ae rfl<|Aa<|Be rfl<|AE<|Ak rfl<|Av rfl<|Ai rfl ?_)
     refine A0 1 _ rfl rfl rfl rfl (by omega) rfl (Hi (cs:=[.bool fs[hand].held,.int .i64 fs[hand].sec,.int .i64 fs[hand].pins,.bool true,.slice a n c']) (fun j u hu=>hcs j u (by rw [hla];exact hu)) (by simp) (by simp;omega)) ?_
     (apply Aa)
     refine⟨(Dq fs hand,Cs fs hand,_),G5 (by omega) hpin ht,⟨rfl,trivial⟩,rfl,by rw [EX];exact hlen,by simp only;rw [←hlen];exact Afn _ (by omega),by rw [GY];exact hpin,?_,(Oe (by omega) hpin ht).trans hsw,rfl,by simp only;rw [←hlen];exact hg2⟩
     intro f hf
     rw [hpass] at hf
     rcases List.mem_or_eq_of_mem_set hf with hf|rfl
     ·exact hpb' f hf
     ·simp only;omega
   ·have ht:Bz fs hand=false:=by unfold Bz;rw [hgd];simp [hp0]
    have hpass:Dq fs hand=fs:=by rw [Dq,hgd,if_neg hp0]
    (refine Ad<|Ak rfl<|Av rfl<|Ai rfl<|Ag rfl (Aj 0 rfl rfl)<|Ab rfl<|Bx _ rfl rfl rfl (by omega)<|Ak rfl<|Aa<|Ax<|Ad<|Ak rfl<|Av rfl<|Ai rfl<|Ag rfl (Aj 1 rfl (by assumption))<|BS rfl rfl<|Ae rfl<|Aa<|Ay rfl (by omega)<|Al ?_)
    have h1:=G5 (by omega) hpin ht
    have h2:=(Oe (by omega) hpin ht).trans hsw
    rw [hpass] at h1 h2
    exact⟨(fs,Cs fs hand,_),h1,⟨rfl,trivial⟩,rfl,hlen,by simp only;rw [←hlen];exact Afn _ (by omega),hpin,hpb',h2,rfl,by simp only;rw [←hlen];exact hg'⟩
end
def AbO(o:Option Nat):Value:=match o with|some i=>.tuple #[.int .i64 i,.bool true]|none=>.tuple #[.int .i64 0,.bool false]
def Ps(P:Program) (f:FuncId):Prop:=∀{d:Ac}{c:CD}{dv cv:Value}{L:List Ac},Ca d c dv cv L→Kv c 4611686018427387904→
 Aw P f [cv] d L (Ret fun r d' L'=>d'=d∧r=AbO (EK c).2∧Ca d (EK c).1 dv cv L')
def KG(a0:Nat):GB:=(.mk 18 [(.tmp 2),(.tmp 3)] (.seq (.g (rG (o1 2 (.mv (kZ 0))<|o1 3 (.mv (.const (.bool false))) .done))) (.seq (.g (rG (om 5 0<|o1 6 (.nilc (tP 5))<|oj 7 2 6<|ol 8 7 .done))) (.seq (.sel .done (some 9) (tP 8) (.int .i64 0) (oe 10 9 0<|ob 11 .eql (tP 10) (kZ 0) .done)) (.g (.block 0 (.cond (tP 11) (sR (oe 16 9 2<|om 4 16 .done) (sR (om 17 4<|om 2 17<|o1 3 (.mv (.const (.bool true))) .done) .ret)) (sR (om 12 0<|oc 13 a0 [(tP 12)]<|oe 14 13 0<|oe 15 13 1<|om 2 14<|om 3 15 .done) .ret))))))))
theorem Xr{P:Program}{f f1:FuncId} (hd:Ff false false P f=some (KG f1)) (h1:NF P f1):Ps P f:=by
 intro d c dv cv L h hpb
 have h0:=h
 obtain⟨b,T,bf,cp,cb,hf,s,r,bd,rfl,rfl,rfl,hg,hl1,hl2,hh,hfr⟩:=h
 refine Ew hd (Aca rfl) ?_
 show xwp P _ _ _ _ _
 (apply BK;apply x_g;apply AE;apply Ab;rfl;apply Ae;rfl;apply Aa;apply BK;apply x_g;apply AE;apply Ak;rfl;apply Av;rfl;apply Ai;rfl;apply Ag;rfl;exact Aj 0 rfl rfl;apply Aa;apply BK;apply Abr;apply Aa)
 have hcase:c.free=[]∨∃i rest,c.free=i::rest:=by cases c.free with|nil=>exact .inl rfl|cons i r=>exact .inr ⟨i,r,rfl⟩
 rcases hcase with hfe|⟨i,rest,hfe⟩
 ·refine V8 2 rfl (by rw [hfe];rfl) ?_
  (refine Ap rfl rfl<|AJ rfl rfl<|Aa ?_;apply x_g;refine Ax<|Ar rfl (by omega)<|Ad<|Ak rfl ?_)
  refine DD (B:=[]) rfl rfl (h1 h0 hpb) (fun u d' L' _ ⟨e1,e2,e3⟩=>?_)
  subst e1
  cases hp:Cf c.fr with
  |true=>
   obtain⟨rfl,rfl⟩:=e2 hp
   (refine Ap rfl rfl<|Ap rfl rfl<|Ab rfl<|Ae rfl<|Aa<|Ao ?_)
   have hr:EK c=(c,none):=by unfold EK;rw [hfe];simp only [hp,if_true]
   rw [hr]
   exact CF rfl rfl (Acb _) ⟨rfl,rfl,h0⟩
  |false=>
   obtain⟨rfl,hc⟩:=e3 hp
   (refine Ap rfl rfl<|Ap rfl rfl<|Ab rfl<|Ae rfl<|Aa<|Ao ?_)
   have hr:EK c=({c with fr:=(Cn (Dc c.fr c.hand+1) c.fr c.hand).1,hand:=(Cn (Dc c.fr c.hand+1) c.fr c.hand).2.1},some (Cn (Dc c.fr c.hand+1) c.fr c.hand).2.2):=by
    unfold EK;rw [hfe];simp only [hp,Acj,if_false]
   rw [hr]
   exact CF rfl rfl (Acb _) ⟨rfl,rfl,by rw [Ads];exact hc⟩
 ·refine VW (v:=.int .i64 i) (buf:=rest.map fun i:Nat=>Value.int .i64 i) 2 rfl (by rw [hfe];rfl) ?_
  (refine Ap rfl rfl<|AJ rfl rfl<|Aa ?_;apply x_g;refine Ax<|Ay rfl (by omega)<|Ad<|Ap rfl rfl<|Ab rfl<|Aa<|Ad<|Ab rfl<|Ab rfl<|Ae rfl<|Aa<|Ao ?_)
  have hr:EK c=({c with free:=rest},some i):=by unfold EK;rw [hfe]
  rw [hr]
  exact CF rfl rfl (Acb _) ⟨rfl,rfl,b,T,bf,cp,cb,hf,s,r+1,bd,rfl,rfl,rfl,hg,hl1,hl2,hh,fun j hj=>hfr j (by rw [hfe];exact Acy _ hj)⟩
def Aaz(d:Ac) (r:Value) (o:Option Sec):Prop:=match o with|some b=>∃u,r=.tuple #[u,.int .i64 0]∧AM d u b|none=>r=.tuple #[.slice none 0 0,.int .i64 180]
def KE(P:Program) (f:FuncId):Prop:=∀{d:Ac}{c:CD}{D:Et}{dv cv:Value}{LC LD:List Ac}{k:Nat},Ca d c dv cv LC→Dv d D dv LD→Kv c 4611686018427387904→k<D.syn.length→
 Aw P f [cv,.int .i64 k] d (LC++LD) (Ret fun r d' L'=>∃LC' LD',L'=LC'++LD'∧Ca d' (Er (D.cur k) c k).1 dv cv LC'∧Dv d' D dv LD'∧Aaz d' r (Er (D.cur k) c k).2)
def Mq(a0 a1 a2 a3 a4:Nat):GB:=(.mk 108 [(.tmp 4),(.tmp 5)] (.seq (.g (rG (o1 4 (.mv nS)<|o1 5 (.mv (kZ 0)) .done))) (.seq (.g (.block 0 (sR (om 13 0<|oc 14 a0 [(tP 13)]<|om 12 14 .done) (.cond (tP 12) (sR (o1 4 (.mv nS)<|o1 5 (.mv (kZ 1)) .done) .ret) (sR (om 16 1<|ob 17 .lss (tP 16) (kZ 0)<|om 18 17<|gF 19 18 1<|gF 20 18 0<|oF 21 18 (.nilc (tP 20))<|oF 22 18 (.fld 0 (tP 21))<|oF 23 18 (.ld none (tP 22))<|oF 24 18 (.call a1 [(tP 23)])<|oF 25 18 (.bin .geq (tP 19) (tP 24))<|o1 26 (.pick (tP 18) (.const (.bool true)) (tP 25))<|om 15 26 .done) (.cond (tP 15) (sR (o1 4 (.mv nS)<|o1 5 (.mv (kZ 4)) .done) .ret) .skip)))))) (.seq (.g (sR (om 28 0<|om 29 1<|oc 30 a2 [(tP 28),(tP 29)]<|om 27 30<|oe 31 27 0<|oe 32 27 1<|om 6 31<|om 7 32 .done) (sR (om 33 6<|o1 34 (.eqp true (tP 33) (.const (.pointer none))) .done) (.cond (tP 34) (sR (om 35 6<|o1 36 (.nilc (tP 35))<|oj 37 2 36<|ol 38 37<|ob 39 .add (tP 38) (kZ 1)<|o1 40 (.nilc (tP 35))<|oj 41 2 40<|o0 (.st 1 (tP 41) (tP 39)) .done) (sR (om 42 6<|o1 43 (.nilc (tP 42))<|oj 44 3 43<|o0 (.st 1 (tP 44) (.const (.bool true))) .done) (sR (om 45 0<|o1 46 (.nilc (tP 45))<|oj 47 4 46<|ol 48 47<|ob 49 .add (tP 48) (kZ 1)<|o1 50 (.nilc (tP 45))<|oj 51 4 50<|o0 (.st 1 (tP 51) (tP 49)) .done) (sR (o1 52 (.bsl 0 1 [(.int .u8 0)] [])<|om 53 6<|o1 54 (.nilc (tP 53))<|oj 55 4 54<|ol 56 55<|o1 57 (.app 1 1 [(.int .u8 0)] (tP 52) (tP 56))<|om 4 57<|o1 5 (.mv (kZ 0)) .done) .ret)))) .skip)))) (.seq (.g (rG (om 59 0<|oc 60 a3 [(tP 59)]<|om 58 60<|oe 61 58 0<|oe 62 58 1<|om 8 61<|om 9 62 .done))) (.seq (.g (sR (om 63 9<|o1 64 (.un .not (tP 63)) .done) (.cond (tP 64) (sR (o1 4 (.mv nS)<|o1 5 (.mv (kZ 180)) .done) .ret) .skip))) (.seq (.g (rG (om 66 0<|o1 67 (.nilc (tP 66))<|oj 68 0 67<|ol 69 68<|om 70 1<|oc 71 a4 [(tP 69),(tP 70)]<|om 65 71<|oe 72 65 0<|oe 73 65 1<|om 10 72<|om 11 73 .done))) (.seq (.seq (.g (rG (om 74 11<|ob 75 .neq (tP 74) (kZ 0) .done))) (.cond (tP 75) (.seq (.g (rG (om 76 0<|o1 77 (.nilc (tP 76))<|oj 78 1 77<|ol 79 78<|om 80 8<|o1 81 (.bld [(0,1),(1,1),(2,1),(3,1),(4,1)] [(.bool false),(.int .i64 0),(.int .i64 0),(.bool false),(.slice none 0 0)] [])<|oI 82 5 79 80<|o0 (.st 5 (tP 82) (tP 81)) .done))) (.seq (.snd (om 83 0<|o1 84 (.nilc (tP 83))<|oj 85 2 84<|ol 86 85<|om 87 8 .done) none (tP 86) (tP 87) .done) (.g (sR (om 88 11<|o1 4 (.mv nS)<|om 5 88 .done) .ret)))) (.g .skip))) (.g (sR (om 89 0<|o1 90 (.nilc (tP 89))<|oj 91 1 90<|ol 92 91<|om 93 8<|om 94 1<|om 95 10<|o1 96 (.bld [(0,1),(1,1),(2,1),(3,1),(4,1)] [(.bool false),(.int .i64 0),(.int .i64 0),(.bool false),(.slice none 0 0)] [(0,(.const (.bool true))),(1,(tP 94)),(2,(kZ 1)),(3,(.const (.bool true))),(4,(tP 95))])<|oI 97 5 92 93<|o0 (.st 5 (tP 97) (tP 96)) .done) (sR (om 98 0<|o1 99 (.nilc (tP 98))<|oj 100 5 99<|ol 101 100<|ob 102 .add (tP 101) (kZ 1)<|o1 103 (.nilc (tP 98))<|oj 104 5 103<|o0 (.st 1 (tP 104) (tP 102)) .done) (sR (o1 105 (.bsl 0 1 [(.int .u8 0)] [])<|om 106 10<|o1 107 (.app 1 1 [(.int .u8 0)] (tP 105) (tP 106))<|om 4 107<|o1 5 (.mv (kZ 0)) .done) .ret))))))))))))
set_option maxHeartbeats 1000000 in
theorem Aaa{P:Program}{f f1 f2 f3 f4 f5:FuncId} (hd:Ff false false P f=some (Mq f1 f2 f3 f4 f5)) (h1:HK P f1) (h2:HE P f2) (h3:Jg P f3) (h4:Ps P f4) (h5:Pb P f5):KE P f:=by
 intro d c D dv cv LC LD k h hD hpb hk
 have h0:=h
 obtain⟨b,T,bf,cp,cb,hf,s,r,bd,rfl,rfl,rfl,hg,hl1,hl2,hh,hfr⟩:=h
 refine Ew hd (Aca rfl) ?_
 show xwp P _ _ _ _ _
 (apply BK;apply x_g;apply AE;apply Am;rfl;apply Ab;rfl;apply Aa;apply BK;apply x_g;apply Ax;apply Ah;apply AE;apply Ak;rfl)
 refine CM (A:=[_]) (B:=_::_::LD) rfl rfl h1 ?_
 (refine Ae rfl<|Aa<|AR rfl<|Ad<|Ab rfl<|AA rfl rfl<|Ae rfl<|AZ rfl (by omega)<|Af rfl<|Ab rfl<|Af rfl<|Ak rfl<|Af rfl<|Av rfl<|Af rfl<|Ai rfl<|Af rfl<|Ag rfl (Aj 0 rfl rfl)<|Af rfl ?_)
 refine LX (A:=LD) Aci rfl (h2 hD) ?_
 (refine Af rfl<|DL rfl rfl<|Aq rfl rfl<|Ae rfl<|Aa<|Ar rfl (by omega)<|Al ?_;apply BK;apply x_g;refine Ad<|Ak rfl<|Ab rfl ?_)
 refine CM (A:=[_,_]) (B:=_::LD) rfl rfl (h3 hg) ?_
 cases hF:findF k c.fr with
 |some i=>
  obtain⟨hi,hheld,hsec⟩:=EZ hF
  obtain⟨b1,T1,l1,c1,cs,q1,rfl,hcl,hcs,hle,⟨a,n,c',rfl,hb⟩,hset⟩:=As.at (by omega) hg hi
  cases q1
  have hpi:=hpb _ (Ada hi)
  have c2:=hcs 2 _ rfl
  have hgd:c.fr.getD i fz=c.fr[i]:=Ix hi
  have hres:Er (D.cur k) c k=({c with fr:=c.fr.set i {c.fr[i] with pins:=c.fr[i].pins+1,late:=true},hits:=c.hits+1},some c.fr[i].b):=by
   unfold Er;rw [hF];simp only [hgd]
  rw [hres]
  (refine AU rfl<|Ap rfl rfl<|Ap rfl rfl<|Ak rfl<|Ab rfl<|Aa<|Ad<|Ak rfl<|Cu rfl rfl<|Aa<|Be rfl<|Ad<|Ak rfl<|Av rfl<|Ai rfl<|Ag rfl (Aj 1 rfl (by assumption))<|AN rfl rfl (by omega) (by omega)<|Av rfl<|Ai rfl ?_)
  refine A0 1 (patch l1 (i*5) [.bool c.fr[i].held,.int .i64 c.fr[i].sec,.int .i64 ((c.fr[i].pins:Int)+1),.bool c.fr[i].late,.slice a n c']) rfl rfl rfl rfl (by omega) rfl (Hi hcs (by simp) (by simp;omega)) ?_
  (refine Aa<|Ad<|Ak rfl<|Av rfl<|Ai rfl ?_)
  refine A0 1 (patch l1 (i*5) [.bool c.fr[i].held,.int .i64 c.fr[i].sec,.int .i64 ((c.fr[i].pins:Int)+1),.bool true,.slice a n c']) rfl rfl rfl rfl (by rw [Bu (by simp;omega)];omega) rfl (Ur (cs:=[.bool c.fr[i].held,.int .i64 c.fr[i].sec,.int .i64 ((c.fr[i].pins:Int)+1),.bool c.fr[i].late,.slice a n c']) (by simp) (by simp;omega)) ?_
  (refine Aa<|Ad<|Ak rfl<|Av rfl<|Ai rfl<|Ag rfl (Aj 0 rfl rfl) ?_)
  refine K4 rfl rfl ?_
  (refine Av rfl<|Ai rfl ?_)
  refine A0 0 [.pointer (some ⟨bd,0,none⟩),.slice (some ⟨bf,0,none⟩) c.fr.length cp,.chan (some cb),.int .i64 c.hand,.int .i64 (wr (c.hits+1)),.int .i64 (wr c.miss)] rfl rfl rfl rfl (Aca rfl) rfl rfl ?_
  have c4:(patch l1 (i*5) [.bool c.fr[i].held,.int .i64 c.fr[i].sec,.int .i64 ((c.fr[i].pins:Int)+1),.bool true,.slice a n c'])[i*5+4]?=some (.slice a n c'):=R6 (by simp;omega) rfl
  (refine Aa<|Ad ?_)
  refine Dn (cs:=[]) (by simp) (by simp [Instr.fill,Bp]) (fun b3 T3=>?_)
  (refine AK<|Av rfl<|Ai rfl ?_)
  refine Ag rfl (Aj 2 rfl c4) ?_
  have hbl:=hb.BW
  refine EP (R:=AP) 0 rfl rfl (As.KN (R:=AP) (sz:=1)) rfl (RSl.src hb Gv (by omega) _) (by omega) (by simp;omega) (by simp;omega) (fun v' h' ho'=>?_)
  rw [Adt] at ho'
  (refine AK<|Ab rfl<|Aa<|Ao ?_)
  have hg2:=hset [.bool c.fr[i].held,.int .i64 c.fr[i].sec,.int .i64 ((c.fr[i].pins:Int)+1),.bool true,.slice a n c'] {c.fr[i] with pins:=c.fr[i].pins+1,late:=true} rfl ⟨a,n,c',rfl,hb⟩
  refine A7 [v',.int .i64 0] ⟨rfl,rfl,trivial⟩ (d':=join d h') (L':=[bx b T [.pointer (some ⟨bd,0,none⟩),.slice (some ⟨bf,0,none⟩) c.fr.length cp,.chan (some cb),.int .i64 c.hand,.int .i64 (wr (c.hits+1)),.int .i64 (wr c.miss)],
   bx bf T1 (patch l1 (i*5) [.bool c.fr[i].held,.int .i64 c.fr[i].sec,.int .i64 ((c.fr[i].pins:Int)+1),.bool true,.slice a n c']),sg cb (.chan c.fr.length (c.free.map fun i:Nat=>Value.int .i64 i).toArray false s r false)]++LD) Vs.freeze
   ⟨_,_,rfl,?_,hD.mono (Le.AI _ _),v',rfl,As.rsl (R:=AP) ho' AX (by omega) (Le.AI _ _) (Le.A9 _ _)⟩
  exact Ca.mk (by simp) (As.mono (R:=RFr) LO hg2 (Le.AI _ _)) hl1 hl2 hh hfr
 |none=>
  (refine AU rfl<|Ap rfl rfl<|Ap rfl rfl<|Ak rfl<|Ab rfl<|Aa<|Ad<|Ak rfl<|Sj rfl rfl<|Aa<|AR rfl<|Al ?_;apply BK;apply x_g;refine AE<|Ak rfl ?_)
  refine DD (A:=[_,_,_]) (B:=LD) rfl rfl (h4 h0 hpb) (fun u d' L' _ ⟨e1,e2,e3⟩=>?_)
  subst e1
  subst e2
  cases hr:EK c with
  |mk c1 o=>
  rw [hr] at e3
  simp only at e3
  have e3':=e3
  obtain⟨b',T',bf',cp',cb',hf',s',r',bd',q1,q2,rfl,hg',hl1',hl2',hh',hfr'⟩:=e3
  cases q1;cases q2
  cases o with
  |none=>
   have hres:Er (D.cur k) c k=(c1,none):=by unfold Er;rw [hF,hr]
   rw [hres]
   (refine AU rfl<|Ap rfl rfl<|Ap rfl rfl<|Ab rfl<|Ae rfl<|Aa ?_;apply BK;apply x_g;refine Ad<|Ae rfl<|Bj rfl<|Aa<|Be rfl<|Ad<|Am rfl<|Ab rfl<|Aa<|Ao ?_)
   exact CF rfl rfl (Acb _) ⟨_,_,rfl,e3',hD,rfl⟩
  |some i=>
   have hres:Er (D.cur k) c k=({c1 with fr:=c1.fr.set i ⟨true,k,1,true,D.cur k⟩,miss:=c1.miss+1},some (D.cur k)):=by unfold Er;rw [hF,hr]
   rw [hres]
   have hi:=Ub hh hfr hr
   (refine AU rfl<|Ap rfl rfl<|Ap rfl rfl<|Ab rfl<|Ae rfl<|Aa ?_;apply BK;apply x_g;refine Ad<|Ae rfl<|Bj rfl<|Aa<|AR rfl<|Al ?_;apply BK;apply x_g;refine AE<|Ak rfl<|Av rfl<|Ai rfl<|Ag rfl (Aj 0 rfl rfl)<|Ab rfl ?_)
   refine Pp (A:=LD) Aci rfl (h5 hD hk) (fun w d2 LD' hld ⟨u,e1,hu,hD'⟩=>⟨d2,[_,_,_]++LD',Vs.perm Aci,?_⟩)
   subst e1
   obtain⟨au,cu,rfl⟩:=RSl.val hu
   obtain⟨b1,T1,l1,x1,cs,q1,rfl,hcl,hcs,hle, -,hset⟩:=As.at (by omega) (As.mono (R:=RFr) LO hg' hld) hi
   cases q1
   (refine AU rfl<|Ap rfl rfl<|Ap rfl rfl<|Am rfl<|Ab rfl<|Aa ?_;apply BK;apply BK;apply x_g;refine AE<|Ab rfl<|AO rfl rfl<|Aa ?_;apply YQ;rfl;apply x_g;apply Al;apply x_g;refine Ad<|Ak rfl<|Av rfl<|Ai rfl<|Ag rfl (Aj 0 rfl rfl)<|Ab rfl<|Ab rfl<|Am rfl<|BI rfl<|Bx _ rfl rfl rfl (by omega) ?_)
   refine Bq (cs:=[.bool true,.int .i64 k,.int .i64 1,.bool true,.slice au (D.cur k).length cu]) 1 rfl rfl rfl rfl hle rfl ?_
   (refine Aa<|Ad<|Ak rfl<|Av rfl<|Ai rfl<|Ag rfl (Aj 0 rfl rfl) ?_)
   refine K4 rfl rfl ?_
   (refine Av rfl<|Ai rfl ?_)
   refine A0 0 [.pointer (some ⟨bd,0,none⟩),.slice (some ⟨bf',0,none⟩) c1.fr.length cp',.chan (some cb'),.int .i64 c1.hand,.int .i64 (wr c1.hits),.int .i64 (wr (c1.miss+1))] rfl rfl rfl rfl (Aca rfl) rfl rfl ?_
   (refine Aa<|Ad ?_)
   refine Dn (cs:=[]) (by simp) (by simp [Instr.fill,Bp]) (fun b3 T3=>?_)
   (apply AK)
   have hbl:=hu.BW
   refine EP (R:=AP) 0 rfl rfl (As.KN (R:=AP) (sz:=1)) rfl (RSl.src hu Gv (by omega) _) (by omega) (by simp;omega) (by simp;omega) (fun v' h' ho'=>?_)
   rw [Adt] at ho'
   (refine AK<|Ab rfl<|Aa<|Ao ?_)
   refine A7 [v',.int .i64 0] ⟨rfl,rfl,trivial⟩ (d':=join d2 h') (L':=[bx b T' [.pointer (some ⟨bd,0,none⟩),.slice (some ⟨bf',0,none⟩) c1.fr.length cp',.chan (some cb'),.int .i64 c1.hand,.int .i64 (wr c1.hits),.int .i64 (wr (c1.miss+1))],
    bx bf' T1 (patch l1 (i*5) [.bool true,.int .i64 k,.int .i64 1,.bool true,.slice au (D.cur k).length cu]),sg cb' (.chan c1.fr.length (c1.free.map fun i:Nat=>Value.int .i64 i).toArray false s' r' false)]++LD') Vs.freeze
    ⟨_,_,rfl,?_,hD'.mono (Le.AI _ _),v',rfl,As.rsl (R:=AP) ho' AX (by omega) (Le.AI _ _) (Le.A9 _ _)⟩
   exact Ca.mk (by simp) (As.mono (R:=RFr) LO (hset _ ⟨true,k,1,true,D.cur k⟩ rfl ⟨au,_,cu,rfl,hu⟩) (Le.AI _ _)) hl1' hl2' hh' hfr'
def HS(P:Program) (f:FuncId):Prop:=∀{d:Ac}{c:CD}{dv cv:Value}{L:List Ac}{k:Nat},Ca d c dv cv L→Kv c 4611686018427387904→
 Aw P f [cv,.int .i64 k] d L (Ret fun r d' L'=>d'=d∧r=.int .i64 (C3 c k).2∧Ca d (C3 c k).1 dv cv L')
def J9(a0 a1:Nat):AY:=⟨31,[(.tmp 4)],(sR (o1 4 (.mv (kZ 0)) .done) (.seq (sR (om 7 0<|oc 8 a0 [(tP 7)] .done) (.cond (tP 8) (sR (o1 4 (.mv (kZ 1)) .done) .ret) .skip)) (sR (om 10 0<|om 11 1<|oc 12 a1 [(tP 10),(tP 11)]<|om 9 12<|oe 13 9 0<|oe 14 9 1<|om 5 13<|om 6 14 .done) (.seq (.block 0 (sR (om 16 5<|o1 17 (.eqp false (tP 16) (.const (.pointer none)))<|om 15 17 .done) (.cond (tP 15) (sR (o1 4 (.mv (kZ 240)) .done) .ret) (sR (om 19 5<|o1 20 (.nilc (tP 19))<|oj 21 2 20<|ol 22 21<|ob 23 .eql (tP 22) (kZ 0)<|om 18 23 .done) (.cond (tP 18) (sR (o1 4 (.mv (kZ 180)) .done) .ret) .skip))))) (sR (om 24 5<|o1 25 (.nilc (tP 24))<|oj 26 2 25<|ol 27 26<|ob 28 .sub (tP 27) (kZ 1)<|o1 29 (.nilc (tP 24))<|oj 30 2 29<|o0 (.st 1 (tP 30) (tP 28)) .done) (sR (o1 4 (.mv (kZ 0)) .done) .ret))))))⟩
theorem Wq{P:Program}{f f1 f2:FuncId} (hd:dec P f=some (J9 f1 f2)) (h1:HK P f1) (h2:Jg P f2):HS P f:=by
 intro d c dv cv L k h hpb
 have h0:=h
 obtain⟨b,T,bf,cp,cb,hf,s,r,bd,rfl,rfl,rfl,hg,hl1,hl2,hh,hfr⟩:=h
 refine AG hd (Aca rfl) ?_
 show gwp P _ _ _ _ _
 (refine Ad<|Ab rfl<|Aa<|Ah<|Ad<|Ak rfl ?_)
 refine CM (A:=[_]) (B:=[_,_]) rfl rfl h1 ?_
 (refine Aa<|AR rfl<|Al<|Ad<|Ak rfl<|Ab rfl ?_)
 refine CM (A:=[_,_]) (B:=[_]) rfl rfl (h2 hg) ?_
 cases hF:findF k c.fr with
 |none=>
  (refine AU rfl<|Ap rfl rfl<|Ap rfl rfl<|Ak rfl<|Ab rfl<|Aa<|Ah<|Ax<|Ad<|Ak rfl<|Sj rfl rfl<|Ae rfl<|Aa<|Be rfl<|Ad<|Ab rfl<|Aa<|Ao ?_)
  have hr:C3 c k=(c,240):=by unfold C3;rw [hF]
  rw [hr]
  exact BG rfl (Acb _) ⟨rfl,rfl,h0⟩
 |some i=>
  obtain⟨hi,hheld,hsec⟩:=EZ hF
  obtain⟨b1,T1,l1,c1,cs,q1,rfl,hcl,hcs,hle,⟨a,n,c',rfl,hb⟩,hset⟩:=As.at (by omega) hg hi
  cases q1
  have hpi:=hpb _ (Ada hi)
  have c2:=hcs 2 _ rfl
  have hgd:c.fr.getD i fz=c.fr[i]:=Ix hi
  by_cases hp:c.fr[i].pins=0
  ·(refine AU rfl<|Ap rfl rfl<|Ap rfl rfl<|Ak rfl<|Ab rfl<|Aa<|Ah<|Ax<|Ad<|Ak rfl<|Cu rfl rfl<|Ae rfl<|Aa<|AR rfl<|Ad<|Ak rfl<|Av rfl<|Ai rfl<|Ag rfl (Aj 1 rfl (by assumption))<|AJ rfl rfl<|Ae rfl<|Aa<|Ay rfl (by omega)<|Ad<|Ab rfl<|Aa<|Ao ?_)
   have hr:C3 c k=(c,180):=by unfold C3;rw [hF];simp only [hgd];rw [if_pos hp]
   rw [hr]
   exact BG rfl (Acb _) ⟨rfl,rfl,h0⟩
  ·(refine AU rfl<|Ap rfl rfl<|Ap rfl rfl<|Ak rfl<|Ab rfl<|Aa<|Ah<|Ax<|Ad<|Ak rfl<|Cu rfl rfl<|Ae rfl<|Aa<|AR rfl<|Ad<|Ak rfl<|Av rfl<|Ai rfl<|Ag rfl (Aj 1 rfl (by assumption))<|AJ rfl rfl<|Ae rfl<|Aa<|Ar rfl (by omega)<|Al<|Ad<|Ak rfl<|Av rfl<|Ai rfl<|Ag rfl (Aj 1 rfl (by assumption))<|CY rfl rfl (by omega) (by omega)<|Av rfl<|Ai rfl ?_)
   refine A0 1 (patch l1 (i*5) [.bool c.fr[i].held,.int .i64 c.fr[i].sec,.int .i64 ((c.fr[i].pins:Int) - 1),.bool c.fr[i].late,.slice a n c']) rfl rfl rfl rfl (by omega) rfl (Hi hcs (by simp) (by simp;omega)) ?_
   (refine Aa<|Ad<|Ab rfl<|Aa<|Ao ?_)
   have hr:C3 c k=({c with fr:=c.fr.set i {c.fr[i] with pins:=c.fr[i].pins - 1}},0):=by unfold C3;rw [hF];simp only [hgd];rw [if_neg hp]
   rw [hr]
   refine BG rfl (Acb _) ⟨rfl,rfl,?_⟩
   exact Ca.mk (by simp) (hset _ {c.fr[i] with pins:=c.fr[i].pins - 1} rfl ⟨a,n,c',by simp only;rw [Int.ofNat_sub (by omega)];rfl,hb⟩) hl1 hl2 hh hfr
def Ha(P:Program) (f:FuncId):Prop:=∀{d:Ac}{c:CD}{dv cv:Value}{L:List Ac}{k:Nat},Ca d c dv cv L→(∀i,findF k c.fr=some i→c.free.length<c.fr.length)→
 Aw P f [cv,.int .i64 k] d L (Ret fun r d' L'=>d'=d∧r=.int .i64 (C0 c k).2∧Ca d (C0 c k).1 dv cv L')
def Jw(a0 a1:Nat):GB:=(.mk 32 [(.tmp 4)] (.seq (.g (rG (o1 4 (.mv (kZ 0)) .done))) (.seq (.g (sR (om 7 0<|oc 8 a0 [(tP 7)] .done) (.cond (tP 8) (sR (o1 4 (.mv (kZ 1)) .done) .ret) .skip))) (.seq (.g (rG (om 10 0<|om 11 1<|oc 12 a1 [(tP 10),(tP 11)]<|om 9 12<|oe 13 9 0<|oe 14 9 1<|om 5 13<|om 6 14 .done))) (.seq (.g (.block 0 (sR (om 16 5<|o1 17 (.eqp false (tP 16) (.const (.pointer none)))<|om 15 17 .done) (.cond (tP 15) (sR (o1 4 (.mv (kZ 240)) .done) .ret) (sR (om 19 5<|o1 20 (.nilc (tP 19))<|oj 21 2 20<|ol 22 21<|ob 23 .gtr (tP 22) (kZ 0)<|om 18 23 .done) (.cond (tP 18) (sR (o1 4 (.mv (kZ 180)) .done) .ret) .skip)))))) (.seq (.g (rG (om 24 5<|o1 25 (.bld [(0,1),(1,1),(2,1),(3,1),(4,1)] [(.bool false),(.int .i64 0),(.int .i64 0),(.bool false),(.slice none 0 0)] [])<|o1 26 (.nilc (tP 24))<|o0 (.st 5 (tP 26) (tP 25)) .done))) (.seq (.snd (om 27 0<|o1 28 (.nilc (tP 27))<|oj 29 2 28<|ol 30 29<|om 31 6 .done) none (tP 30) (tP 31) .done) (.g (sR (o1 4 (.mv (kZ 0)) .done) .ret)))))))))
theorem Vc{P:Program}{f f1 f2:FuncId} (hd:Ff false false P f=some (Jw f1 f2)) (h1:HK P f1) (h2:Jg P f2):Ha P f:=by
 intro d c dv cv L k h hroom
 have h0:=h
 obtain⟨b,T,bf,cp,cb,hf,s,r,bd,rfl,rfl,rfl,hg,hl1,hl2,hh,hfr⟩:=h
 refine Ew hd (Aca rfl) ?_
 show xwp P _ _ _ _ _
 (apply BK;apply x_g;apply AE;apply Ab;rfl;apply Aa;apply BK;apply x_g;apply Ah;apply AE;apply Ak;rfl)
 refine CM (A:=[_]) (B:=[_,_]) rfl rfl h1 ?_
 (refine Aa<|AR rfl<|Al ?_;apply BK;apply x_g;refine AE<|Ak rfl<|Ab rfl ?_)
 refine CM (A:=[_,_]) (B:=[_]) rfl rfl (h2 hg) ?_
 cases hF:findF k c.fr with
 |none=>
  (refine AU rfl<|Ap rfl rfl<|Ap rfl rfl<|Ak rfl<|Ab rfl<|Aa ?_;apply BK;apply x_g;refine Ax<|Ad<|Ak rfl<|Sj rfl rfl<|Ae rfl<|Aa<|Be rfl<|Ad<|Ab rfl<|Aa<|Ao ?_)
  have hr:C0 c k=(c,240):=by unfold C0;rw [hF]
  rw [hr]
  exact BG rfl (Acb _) ⟨rfl,rfl,h0⟩
 |some i=>
  obtain⟨hi,hheld,hsec⟩:=EZ hF
  have hroom:=hroom i hF
  obtain⟨b1,T1,l1,c1,cs,q1,rfl,hcl,hcs,hle,⟨a,n,c',rfl,hb⟩,hset⟩:=As.at (by omega) hg hi
  cases q1
  have c2:=hcs 2 _ rfl
  have hgd:c.fr.getD i fz=c.fr[i]:=Ix hi
  by_cases hp:c.fr[i].pins=0
  ·(refine AU rfl<|Ap rfl rfl<|Ap rfl rfl<|Ak rfl<|Ab rfl<|Aa ?_;apply BK;apply x_g;refine Ax<|Ad<|Ak rfl<|Cu rfl rfl<|Ae rfl<|Aa<|AR rfl<|Ad<|Ak rfl<|Av rfl<|Ai rfl<|Ag rfl (Aj 1 rfl (by assumption))<|BS rfl rfl<|Ae rfl<|Aa<|Ar rfl (by omega)<|Al ?_;apply BK;apply x_g;refine AE<|Ak rfl<|BI rfl<|Av rfl ?_)
   have hr:C0 c k=({c with fr:=c.fr.set i fz,free:=c.free++[i]},0):=by unfold C0;rw [hF];simp only [hgd];rw [if_neg (by omega)]
   rw [hr]
   refine Bq (cs:=[.bool false,.int .i64 0,.int .i64 0,.bool false,.slice none 0 0]) 1 rfl rfl rfl rfl hle rfl ?_
   (apply Aa;apply BK;apply YT;refine Ak rfl<|Av rfl<|Ai rfl<|Ag rfl (Aj 0 rfl rfl)<|Ab rfl<|Aa ?_)
   refine VP (cap:=c.fr.length) (buf:=c.free.map fun i:Nat=>Value.int .i64 i) (v:=.int .i64 i) 2 rfl rfl (by rw [Adx];exact hroom) rfl ?_
   (apply Aa;apply x_g;refine Ad<|Ab rfl<|Aa<|Ao ?_)
   refine BG rfl (Acb _) ⟨rfl,rfl,?_⟩
   have:=Ca.mk (c:={c with fr:=c.fr.set i fz,free:=c.free++[i]}) (d:=d) (b:=b) (T:=T) (cb:=cb) (s:=s+1) (r:=r) (bd:=bd) (by simp) (hset _ fz rfl ⟨none,0,0,rfl,RSl.nil⟩) hl1 hl2 hh (fun j hj=>by
    rcases Ack.1 hj with hj|hj
    ·exact hfr j hj
    ·rw [Acv.1 hj];exact hi)
   simp only [Afk,Afj,List.map_nil] at this
   exact this
  ·(refine AU rfl<|Ap rfl rfl<|Ap rfl rfl<|Ak rfl<|Ab rfl<|Aa ?_;apply BK;apply x_g;refine Ax<|Ad<|Ak rfl<|Cu rfl rfl<|Ae rfl<|Aa<|AR rfl<|Ad<|Ak rfl<|Av rfl<|Ai rfl<|Ag rfl (Aj 1 rfl (by assumption))<|BS rfl rfl<|Ae rfl<|Aa<|Ay rfl (by omega)<|Ad<|Ab rfl<|Aa<|Ao ?_)
   have hr:C0 c k=(c,180):=by unfold C0;rw [hF];simp only [hgd];rw [if_pos (by omega)]
   rw [hr]
   exact BG rfl (Acb _) ⟨rfl,rfl,h0⟩
def I9(P:Program) (f:FuncId):Prop:=∀{d:Ac}{c:CD}{dv cv:Value}{L:List Ac},Ca d c dv cv L→(∀f∈c.fr,f.sec≤8192)→
 Aw P f [cv] d L (Ret fun r d' L'=>L'=L∧Dz d' r (DT c))
def K1(a0:Nat):AY:=⟨29,[(.tmp 2)],(sR (o1 2 (.mv nS) .done) (.seq (sR (om 6 0<|oc 7 a0 [(tP 6)] .done) (.cond (tP 7) (sR (o1 2 (.mv nS) .done) .ret) .skip)) (sR (o1 3 (.mv nS) .done) (.seq (sR (om 8 0<|o1 9 (.nilc (tP 8))<|oj 10 1 9<|ol 11 10<|oL 12 11<|o1 13 (.mv (kZ 0)) .done) (.block 0 (.loop (sR (ob 14 .lss (tP 13) (tP 12) .done) (.seq (.cond (tP 14) .skip (.exit 0)) (.seq (.block 1 (sR (oI 15 5 11 13<|o1 16 (.ld (some 5) (tP 15))<|o1 5 (.alo (.agg #[(.bool false),(.int .i64 0),(.int .i64 0),(.bool false),(.slice none 0 0)]))<|o0 (.st 5 (tP 5) (tP 16)) .done) (sR (oj 17 0 5<|ol 18 17 .done) (.cond (tP 18) (rG (om 19 3<|oj 20 1 5<|ol 21 20<|o1 22 (.bsl 1 1 [(.int .i64 0)] [(0,(tP 21))])<|o1 23 (.app 1 8 [(.int .i64 0)] (tP 19) (tP 22))<|om 3 23 .done)) (rG (om 24 3<|o1 25 (.bsl 1 1 [(.int .i64 0)] [(0,(kZ (-1)))])<|o1 26 (.app 1 8 [(.int .i64 0)] (tP 24) (tP 25))<|om 3 26 .done)))))) (rG (ob 27 .add (tP 13) (kZ 1)<|om 13 27 .done)))))))) (sR (om 28 3<|om 2 28 .done) .ret)))))⟩
theorem Xo{P:Program}{f f1:FuncId} (hd:dec P f=some (K1 f1)) (h1:HK P f1):I9 P f:=by
 intro d c dv cv L h hsec
 obtain⟨b,T,bf,cp,cb,hf,s,r,bd,rfl,rfl,rfl,hg,hl1,hl2,hh,hfr⟩:=h
 refine AG hd (Aca rfl) ?_
 show gwp P _ _ _ _ _
 (refine Ad<|Am rfl<|Aa<|Ah<|Ad<|Ak rfl ?_)
 refine CM (A:=[_]) (B:=[_,_]) rfl rfl h1 ?_
 refine FE ⟨d,emp::[bx b T [.pointer (some ⟨bd,0,none⟩),.slice (some ⟨bf,0,none⟩) c.fr.length cp,.chan (some cb),.int .i64 c.hand,.int .i64 (wr c.hits),.int .i64 (wr c.miss)],hf,sg cb (.chan c.fr.length (c.free.map fun i:Nat=>Value.int .i64 i).toArray false s r false)],Vs.emp,?_⟩
 (refine AR rfl<|Al<|Ad<|Am rfl<|Aa<|Ah<|Ad<|Ak rfl<|Av rfl<|Ai rfl<|Ag rfl (Aj 1 rfl rfl)<|AL rfl<|Ab rfl<|Aa<|Ax ?_)
 have hlen:(DT c).length=c.fr.length:=by simp [DT]
 refine CI (α:=Nat×Value×Ac) (fun x=>[(3,x.2.1),(11,.slice (some ⟨bf,0,none⟩) c.fr.length cp),(12,.int .i64 c.fr.length),(13,.int .i64 x.1)])
  (fun x d' L'=>d'=d∧x.1≤c.fr.length∧As 1 Bi d x.2.1 ((DT c).take x.1) x.2.2∧L'=x.2.2::[bx b T [.pointer (some ⟨bd,0,none⟩),.slice (some ⟨bf,0,none⟩) c.fr.length cp,.chan (some cb),.int .i64 c.hand,.int .i64 (wr c.hits),.int .i64 (wr c.miss)],hf,sg cb (.chan c.fr.length (c.free.map fun i:Nat=>Value.int .i64 i).toArray false s r false)])
  (fun x=>c.fr.length - x.1) (0,.slice none 0 0,emp) ⟨rfl,rfl,rfl,rfl,trivial⟩ ⟨rfl,by omega,As.nil,rfl⟩ ?_
 rintro⟨i,v,hv⟩ ρ d' L' ⟨rfl,hi,hrow,rfl⟩
 simp only at hi hrow⊢
 by_cases e:i<c.fr.length
 ·obtain⟨b1,T1,l1,c1,cs,q1,rfl,hcl,hcs,hle,⟨a,n,c',rfl,hb⟩,hset⟩:=As.at (by omega) hg e
  cases q1
  have hsi:=hsec _ (Ada e)
  have htl:((DT c).take i).length=i:=by rw [Acw];omega
  have hnext:(DT c).take (i+1)=(DT c).take i++[if c.fr[i].held then(c.fr[i].sec:Int) else -1]:=by
   rw [Acx (by omega)];simp [DT]
  (refine Ad<|AA rfl rfl<|Aa<|Ah<|Ay rfl (by omega)<|Al<|Ah<|Ax<|Ad<|Bx _ rfl rfl rfl (by omega) ?_)
  refine JX _ 2 rfl rfl hcl hcs ?_
  (apply BV;intro _ _)
  refine JG 0 rfl rfl rfl rfl rfl rfl ?_
  cases hh:c.fr[i].held with
  |true=>
   (refine Aa<|Ad<|Ai rfl<|Ag rfl (Aj 0 rfl rfl)<|Aa<|Be rfl<|AE<|AK<|Ai rfl<|Ag rfl (Aj 0 rfl rfl) ?_)
   refine Ea rfl rfl (fun b3 T3=>?_)
   refine D8 (R:=Bi) 1 rfl rfl hrow rfl (As.Es (x:=(c.fr[i].sec:Int)) rfl ⟨rfl,by omega,by omega⟩) Di (by omega) (by rw [htl];simp;omega) (by rw [htl];simp;omega) (fun v' h' ho'=>?_)
   refine B9 d' (h'::[_,_,_]) (Vs.drop (Acz _ _)) ?_
   (refine AK<|Aa<|AE<|AN rfl rfl (by omega) (by omega)<|Ab rfl<|Aa ?_)
   rw [hh] at hnext
   exact⟨(i+1,v',h'),by simp only;omega,⟨rfl,rfl,rfl,rfl,trivial⟩,rfl,e,by simp only [hnext];exact ho',rfl⟩
  |false=>
   (refine Aa<|Ad<|Ai rfl<|Ag rfl (Aj 0 rfl rfl)<|Aa<|AR rfl<|AE<|AK ?_)
   refine Ea rfl rfl (fun b3 T3=>?_)
   refine D8 (R:=Bi) 1 rfl rfl hrow rfl (As.Es (x:=(-1:Int)) rfl ⟨rfl,by omega,by omega⟩) Di (by omega) (by rw [htl];simp;omega) (by rw [htl];simp;omega) (fun v' h' ho'=>?_)
   refine B9 d' (h'::[_,_,_]) (Vs.drop (Acz _ _)) ?_
   (refine AK<|Aa<|AE<|AN rfl rfl (by omega) (by omega)<|Ab rfl<|Aa ?_)
   rw [hh] at hnext
   exact⟨(i+1,v',h'),by simp only;omega,⟨rfl,rfl,rfl,rfl,trivial⟩,rfl,e,by simp only [hnext];exact ho',rfl⟩
 ·(refine Ad<|AA rfl rfl<|Aa<|Ah<|Ar rfl (by omega)<|Bh<|Ad<|AK<|AK<|Aa<|Ao ?_)
  rw [Aec (by omega)] at hrow
  exact A7 [v] ⟨rfl,trivial⟩ Vs.freeze ⟨rfl,As.rsl (R:=Bi) hrow Cb (by omega) (Le.AI _ _) (Le.A9 _ _)⟩
def VO(P:Program) (f:FuncId):Prop:=∀{d:Ac}{c:CD}{dv cv:Value}{L:List Ac},Ca d c dv cv L→CW P f [cv] d L (.int .i64 (wr c.hits))
def Sz(P:Program) (f:FuncId):Prop:=∀{d:Ac}{c:CD}{dv cv:Value}{L:List Ac},Ca d c dv cv L→CW P f [cv] d L (.int .i64 (wr c.miss))
def JN(P:Program) (f:FuncId):Prop:=∀{d:Ac}{D:Et}{dv:Value}{LD:List Ac}{n:Nat},Dv d D dv LD→1≤D.syn.length→1≤n→n≤64→
 Aw P f [dv,.int .i64 n] d LD (Ret fun r d' L'=>d'=d∧∃cv LC,r=.tuple #[cv,.int .i64 0]∧L'=LC++LD∧Ca d ⟨Acr n fz,Ade n,0,0,0⟩ dv cv LC)
def SL(a0:Nat):GB:=(.mk 37 [(.tmp 4),(.tmp 5)] (.seq (.g (rG (o1 4 (.mv (.const (.pointer none)))<|o1 5 (.mv (kZ 0)) .done))) (.seq (.g (.block 0 (sR (om 9 0<|oc 10 a0 [(tP 9)]<|ob 11 .eql (tP 10) (kZ 0)<|om 8 11 .done) (.cond (tP 8) (sR (o1 4 (.mv (.const (.pointer none)))<|o1 5 (.mv (kZ 1)) .done) .ret) (sR (om 13 1<|ob 14 .lss (tP 13) (kZ 1)<|om 15 14<|gF 16 15 1<|oF 17 15 (.bin .gtr (tP 16) (kZ 64))<|o1 18 (.pick (tP 15) (.const (.bool true)) (tP 17))<|om 12 18 .done) (.cond (tP 12) (sR (o1 4 (.mv (.const (.pointer none)))<|o1 5 (.mv (kZ 2)) .done) .ret) .skip)))))) (.seq (.g (.reg true (pm 19 0<|pm 20 1<|pm 22 1 (.alt ⟨(some 21),none,(.mks 5 56 [(.bool false),(.int .i64 0),(.int .i64 0),(.bool false),(.slice none 0 0)] (tP 20) (tP 20))⟩ (o1 23 (.mop (.mkc 8 (tP 22))) (p1 24 (.bld [(0,1),(1,1),(2,1),(3,1),(4,1),(5,1)] [(.pointer none),(.slice none 0 0),(.chan none),(.int .i64 0),(.int .i64 0),(.int .i64 0)] [(0,(tP 19)),(1,(tP 21)),(2,(tP 23))]) (o1 25 (.box (tP 24)) (.bar (pm 6 25 .done))))) (o1 23 (.mop (.mkc 8 (tP 22))) (o1 21 (.mks 5 56 [(.bool false),(.int .i64 0),(.int .i64 0),(.bool false),(.slice none 0 0)] (tP 20) (tP 20)) (p1 24 (.bld [(0,1),(1,1),(2,1),(3,1),(4,1),(5,1)] [(.pointer none),(.slice none 0 0),(.chan none),(.int .i64 0),(.int .i64 0),(.int .i64 0)] [(0,(tP 19)),(1,(tP 21)),(2,(tP 23))]) (o1 25 (.box (tP 24)) (.bar (pm 6 25 .done)))))))))) (.seq (.seq (.g (rG (om 26 1<|o1 27 (.mv (kZ 0)) .done))) (.block 1 (.loop (.seq (.g (rG (ob 28 .lss (tP 27) (tP 26) .done))) (.seq (.g (.cond (tP 28) .skip (.exit 1))) (.seq (.block 2 (.seq (.g (rG (om 29 27<|om 7 29 .done))) (.snd (om 30 6<|o1 31 (.nilc (tP 30))<|oj 32 2 31<|ol 33 32<|om 34 7 .done) none (tP 33) (tP 34) .done))) (.g (rG (ob 35 .add (tP 27) (kZ 1)<|om 27 35 .done))))))))) (.g (sR (om 36 6<|om 4 36<|o1 5 (.mv (kZ 0)) .done) .ret)))))))
theorem Z9{P:Program}{f f1:FuncId} (hd:Ff false false P f=some (SL f1)) (h1:HE P f1):JN P f:=by
 intro d D dv LD n hD hs hn1 hn2
 have hD0:=hD
 obtain⟨bd, -, -, -, -, -, -,rfl, -⟩:=hD
 refine Ew hd (Aca rfl) ?_
 show xwp P _ _ _ _ _
 (apply BK;apply x_g;apply AE;apply Ak;rfl;apply Ab;rfl;apply Aa;apply BK;apply x_g;apply Ax;apply Ah;apply AE;apply Ak;rfl)
 refine LX (A:=LD) (B:=[]) (by rw [Ads]) rfl (h1 hD0) ?_
 (refine AJ rfl rfl<|Ae rfl<|Aa<|Ar rfl (by omega)<|Ad<|Ab rfl<|AA rfl rfl<|Ae rfl<|AZ rfl (by omega)<|Af rfl<|Ab rfl<|Af rfl<|BS rfl rfl<|Aq rfl rfl<|Ae rfl<|Aa<|Ar rfl (by omega)<|Al ?_;apply BK;apply x_g)
 refine Abl (fun ρ d' L'=>d'=d∧∃b T bf Tf cb,BD ρ [(1,.int .i64 n),(6,.pointer (some ⟨b,0,none⟩))]∧
  L'=[bx b T [.pointer (some ⟨bd,0,none⟩),.slice (some ⟨bf,0,none⟩) n n,.chan (some cb),.int .i64 0,.int .i64 0,.int .i64 0],bx bf Tf (Bp [.bool false,.int .i64 0,.int .i64 0,.bool false,.slice none 0 0] (n*5)),sg cb (.chan n #[] false 0 0 false)]++LD) ?_ ?_
 ·refine Br [] _ rfl ?_
  (refine Ak rfl<|Ab rfl<|Ab rfl ?_)
  refine EB ?_ ?_
  ·refine Hp rfl rfl (Ach n) (by omega) (by omega) (fun bf Tf=>?_)
   refine YW rfl (by omega) (by omega) (fun cb=>?_)
   refine BI (cs:=[.pointer (some ⟨bd,0,none⟩),.slice (some ⟨bf,0,none⟩) n n,.chan (some cb),.int .i64 0,.int .i64 0,.int .i64 0]) rfl ?_
   refine Cc rfl (fun b T=>?_)
   (refine B4<|Ak rfl ?_)
   exact FE ⟨d,_::_::_::LD,Vs.perm ((Adc _ _ LD).cons _),rfl,b,T,bf,Tf,cb,⟨rfl,rfl,trivial⟩,rfl⟩
  ·refine YW rfl (by omega) (by omega) (fun cb=>?_)
   refine Hp rfl rfl (Ach n) (by omega) (by omega) (fun bf Tf=>?_)
   refine BI (cs:=[.pointer (some ⟨bd,0,none⟩),.slice (some ⟨bf,0,none⟩) n n,.chan (some cb),.int .i64 0,.int .i64 0,.int .i64 0]) rfl ?_
   refine Cc rfl (fun b T=>?_)
   (refine B4<|Ak rfl ?_)
   exact FE ⟨d,[_,_,_]++LD,Vs.refl _ _,rfl,b,T,bf,Tf,cb,⟨rfl,rfl,trivial⟩,rfl⟩
 ·rintro ρ d' L' ⟨rfl,b,T,bf,Tf,cb,hsl,rfl⟩
  refine OI _ hsl ?_
  (apply BK;apply BK;apply x_g;apply AE;apply Ab;rfl;apply Ab;rfl;apply Aa;apply Ge)
  refine Pd (α:=Nat) (fun i=>[(6,.pointer (some ⟨b,0,none⟩)),(26,.int .i64 n),(27,.int .i64 i)])
   (fun i d2 L'=>d2=d'∧i≤n∧L'=[bx b T [.pointer (some ⟨bd,0,none⟩),.slice (some ⟨bf,0,none⟩) n n,.chan (some cb),.int .i64 0,.int .i64 0,.int .i64 0],bx bf Tf (Bp [.bool false,.int .i64 0,.int .i64 0,.bool false,.slice none 0 0] (n*5)),sg cb (.chan n ((Ade i).map fun i:Nat=>Value.int .i64 i).toArray false i 0 false)]++LD)
   (fun i=>n - i) 0 ⟨rfl,rfl,rfl,trivial⟩ ⟨rfl,by omega,rfl⟩ ?_
  rintro i ρ d2 L2 ⟨rfl,hi,rfl⟩
  by_cases e:i<n
  ·(apply BK;apply x_g;apply AE;apply AA;rfl;rfl;apply Aa;apply BK;apply x_g;refine Ay rfl (by omega) ?_;apply Al;apply BK;apply Ge;apply BK;apply x_g;apply AE;apply Ab;rfl;apply Ab;rfl;apply Aa;apply YT;apply Ak;rfl;apply Av;rfl;apply Ai;rfl;apply Ag;rfl;exact Aj 0 rfl rfl;apply Ab;rfl;apply Aa)
   refine VP (cap:=n) (buf:=(Ade i).map fun i:Nat=>Value.int .i64 i) (v:=.int .i64 i) 2 rfl rfl (by simpa using e) rfl ?_
   (apply Aa;apply x_g;refine AE<|AN rfl rfl (by omega) (by omega)<|Ab rfl<|Aa ?_)
   refine⟨i+1,by omega,⟨rfl,rfl,rfl,trivial⟩,rfl,e,?_⟩
   rw [List.range_succ,Afk]
   rfl
  ·(apply BK;apply x_g;apply AE;apply AA;rfl;rfl;apply Aa;apply BK;apply x_g;refine Ar rfl (by omega) ?_;apply Bh;apply x_g;apply Ah;apply AE;apply Ak;rfl;apply Ak;rfl;apply Ab;rfl;apply Aa;apply Ao)
   have ei:i=n:=by omega
   subst ei
   refine CF rfl rfl (Acb _) ⟨rfl,_,_,rfl,rfl,?_⟩
   have hw0:wr 0=0:=rfl
   have:=Ca.mk (c:=⟨Acr i fz,Ade i,0,0,0⟩) (d:=d2) (b:=b) (T:=T) (cb:=cb) (s:=i) (r:=0) (bd:=bd) (n:=i) (by simp) (As.zero (b:=bf) (T:=Tf) (R:=RFr) (x:=fz) rfl (by omega) ⟨none,0,0,rfl,RSl.nil⟩ (by omega)) hn1 hn2 hn1 (fun j hj=>by simpa using hj)
   exact this
end Go.Gk.Cch
end
section
namespace Go.Gk.Node
open Go Go.Gk
attribute [local irreducible] gwp gws
def DZ{α:Type} (R:Ac→List Value→α→Prop) (by_:Nat) (P:Program) (f:FuncId):Prop:=∀{d:Ac}{v:Value}{xs:List α},RSl 1 R d v xs→xs.length*by_≤140737488355328→
 Aw P f [v] d [] (Ret fun r d' L'=>d'=d∧∃h,L'=[h]∧As 1 R d r xs h)
def HU:AY:=⟨8,[(.tmp 2)],(sR (o1 2 (.mv nS) .done) (.seq (sR (om 3 0<|o1 4 (.eqs false (tP 3) nS) .done) (.cond (tP 4) (sR (o1 2 (.mv nS) .done) .ret) .skip)) (sR (o1 5 (.bsl 0 1 [(.int .u8 0)] [])<|om 6 0<|o1 7 (.app 1 1 [(.int .u8 0)] (tP 5) (tP 6))<|om 2 7 .done) .ret)))⟩
theorem N9{P:Program}{f:FuncId} (hd:dec P f=some HU):DZ AP 1 P f:=by
 intro d v xs hv hb
 have hv':=hv
 have hxl:=RSl.BW hv
 obtain⟨a,c,b,o,rfl,h2,h3,h4,h5,_⟩:=hv
 refine AG hd (Aca rfl) ?_
 show gwp P _ _ _ _ _
 cases a with
 |none=>
  have:xs=[]:=Acm (by have:=h4 rfl;omega)
  subst this
  apply Ah;apply AE
  refine B9 d [emp] Vs.emp ?_
  (refine Am rfl<|Aa<|Ah<|Ad<|Am rfl<|RG rfl rfl<|Aa<|Be rfl<|Ad<|Am rfl<|Aa<|Ao ?_)
  exact BG (L':=[emp]) rfl (Acb _) ⟨rfl,emp,rfl,As.nil⟩
 |some a=>
  (refine Ad<|Am rfl<|Aa<|Ah<|Ad<|Am rfl<|QX rfl rfl<|Aa<|AR rfl<|Al<|Ad ?_)
  refine Dn (cs:=[]) (by omega) rfl (fun b8 T8=>?_)
  (apply Am;rfl)
  refine EP 0 rfl rfl (As.KN (R:=AP) (sz:=1)) rfl (RSl.src (R:=AP) (xs:=xs) hv' Gv (by omega) _) (by omega) (by simp;omega) (by simp;omega) (fun v5 h5 hrow5=>?_)
  (refine AK<|Aa<|Ao ?_)
  exact BG (L':=[h5]) rfl (Acb _) ⟨rfl,h5,rfl,hrow5⟩
def II:AY:=⟨8,[(.tmp 2)],(sR (o1 2 (.mv nS) .done) (.seq (sR (om 3 0<|o1 4 (.eqs false (tP 3) nS) .done) (.cond (tP 4) (sR (o1 2 (.mv nS) .done) .ret) .skip)) (sR (o1 5 (.bsl 0 1 [(.int .i64 0)] [])<|om 6 0<|o1 7 (.app 1 8 [(.int .i64 0)] (tP 5) (tP 6))<|om 2 7 .done) .ret)))⟩
theorem Qp{P:Program}{f:FuncId} (hd:dec P f=some II):DZ Bi 8 P f:=by
 intro d v xs hv hb
 have hv':=hv
 have hxl:=RSl.BW hv
 obtain⟨a,c,b,o,rfl,h2,h3,h4,h5,_⟩:=hv
 refine AG hd (Aca rfl) ?_
 show gwp P _ _ _ _ _
 cases a with
 |none=>
  have:xs=[]:=Acm (by have:=h4 rfl;omega)
  subst this
  apply Ah;apply AE
  refine B9 d [emp] Vs.emp ?_
  (refine Am rfl<|Aa<|Ah<|Ad<|Am rfl<|RG rfl rfl<|Aa<|Be rfl<|Ad<|Am rfl<|Aa<|Ao ?_)
  exact BG (L':=[emp]) rfl (Acb _) ⟨rfl,emp,rfl,As.nil⟩
 |some a=>
  (refine Ad<|Am rfl<|Aa<|Ah<|Ad<|Am rfl<|QX rfl rfl<|Aa<|AR rfl<|Al<|Ad ?_)
  refine Dn (cs:=[]) (by omega) rfl (fun b8 T8=>?_)
  (apply Am;rfl)
  refine EP 0 rfl rfl (As.KN (R:=Bi) (sz:=1)) rfl (RSl.src (R:=Bi) (xs:=xs) hv' Di (by omega) _) (by omega) (by simp;omega) (by simp;omega) (fun v5 h5 hrow5=>?_)
  (refine AK<|Aa<|Ao ?_)
  exact BG (L':=[h5]) rfl (Acb _) ⟨rfl,h5,rfl,hrow5⟩
end Go.Gk.Node
end
