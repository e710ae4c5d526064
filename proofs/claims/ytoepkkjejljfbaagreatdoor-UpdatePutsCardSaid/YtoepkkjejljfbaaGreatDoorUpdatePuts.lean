/-
  'thimblelaw13.UpdatePuts' returns true for every value, all ways and every other value, and leaves them as they are; the tables that it reads are tied to the program's text. No condition.
-/
import Derived.Test.YtoepkkjejljfbaaGreatDoorRows
import Derived.Test.YtoepkkjejljfbaaGreatDoorCards
import Derived.Test.YtoepkkjejljfbaaGreatDoorTie
import Derived.Test.YtoepkkjejljfbaaGreatDoorC13
import Derived.Test.YtoepkkjejljfbaaGreatDoorPzH
import Derived.SevenTiedAt
namespace Go.Proofs.YtoepkkjejljfbaaGreatDoor.updatePuts
open Go Go.Gk Go.Gk.Val Go.ChangeShapes Go.WideShapes Go.ChangeAt Go.RowKit
theorem c74:Oy Tryz.prog 7:=WN (hd:=by kernel_rfl)
theorem c75:Rt Tryz.prog 47:=XX (hd:=by kernel_rfl) (h1:=c63) (h2:=c65)
theorem c76:S6 T Tryz.prog 21:=YX (hT:=hTm) (hd:=by kernel_rfl) (h1:=c14) (h2:=c53) (h3:=c75) (h4:=c68)
theorem c77:P7 T Tryz.prog 8:=Yb (hTm:=hTm) (hd:=by kernel_rfl) (h1:=c14) (h2:=c76) (h3:=c68)
theorem c78:Gt Tryz.prog 49:=O1 (hd:=by kernel_rfl)
theorem c79:MW Tryz.prog 95:=R8 (hd:=by kernel_rfl)
theorem c80:IN Tryz.prog 68:=PN (hd:=by kernel_rfl) (h1:=c79)
theorem c81:DP T Tryz.prog 36:=Pd (hd:=by kernel_rfl) (h1:=c80)
theorem c82:KM Tryz.prog 91:=Sg (hd:=by kernel_rfl)
theorem c83:K7 Tryz.prog 113:=P8 (hd:=by kernel_rfl)
theorem c84:G7 T Tryz.prog 90:=SA (hd:=by kernel_rfl) (h1:=c82) (h2:=c83)
theorem c85:M5 T Tryz.prog 78:=Sn (hd:=by kernel_rfl) (h1:=c81) (h2:=c84)
theorem c86:Nf T Tryz.prog 50:=Se (hd:=by kernel_rfl) (h1:=c85)
theorem c87:EW T Tryz.prog 23:=Pq (hd:=by kernel_rfl) (h1:=c78) (h2:=c86)
theorem c88:Jx T Tryz.prog 51:=TX (hd:=by kernel_rfl) (h1:=c81)
theorem c89:NB Tryz.prog 102:=YE (hd:=by kernel_rfl)
theorem c90:NL Tryz.prog 120:=Wj (hd:=by kernel_rfl)
theorem c91:FB Tryz.prog 103:=Ws (hd:=by kernel_rfl) (h1:=c90)
theorem c92:N6 Tryz.prog 104:=VR (hd:=by kernel_rfl) (h1:=c80)
theorem c93:GR Tryz.prog 79:=Vr (hd:=by kernel_rfl) (h1:=c89) (h2:=c91) (h3:=c92)
theorem c94:Rp T Tryz.prog 105:=X3 (hTm:=fun h hl=>hTm hl h) (hd:=by kernel_rfl) (h1:=c81) (h2:=c87) (h3:=c78)
theorem c95:Nn T Tryz.prog 80:=XU (hTm:=fun h hl=>hTm hl h) (hd:=by kernel_rfl) (h1:=c94) (h2:=c89) (h3:=c91)
theorem c96:N8 T Tryz.prog 52:=VO (hTm:=fun h hl=>hTm hl h) (hd:=by kernel_rfl) (h1:=c93) (h2:=c95)
theorem c97:QS T Tryz.prog 24:=XP (hTm:=fun h hl=>hTm hl h) (hd:=by kernel_rfl) (h1:=c87) (h2:=c88) (h3:=c96) (h4:=c78)
theorem c98:Ml T Tryz.prog 9:=UB (hTm:=hTm) (hd:=by kernel_rfl) (h1:=c87) (h2:=c97)
theorem c99:Ih Tryz.prog 35:=Ns (hd:=by kernel_rfl)
theorem c100:MP Tryz.prog 37:=Sf (hd:=by kernel_rfl)
theorem c101:JL Tryz.prog 69:=ON (hd:=by kernel_rfl)
theorem c102:II Tryz.prog 38:=Qd (hd:=by kernel_rfl) (h1:=c101)
theorem c103:JH Tryz.prog 39:=OX (hd:=by kernel_rfl) (h1:=c102)
theorem c104:HK T Tryz.prog 14:=OW (hTm:=hTm) (hd:=by kernel_rfl) (h1:=c99) (h2:=c81) (h3:=c100) (h4:=c102) (h5:=c103)
theorem c105:Gg Tryz.prog 61:=HZ (hd:=by kernel_rfl)
theorem c106:Mi Tryz.prog 129:=Uq (hd:=by kernel_rfl)
theorem c107:QP Tryz.prog 130:=Xn (hd:=by kernel_rfl)
theorem c108:QZ Tryz.prog 114:=XA (hd:=by kernel_rfl) (h1:=c106) (h2:=c107)
theorem c109:NS Tryz.prog 115:=V4 (hd:=by kernel_rfl)
theorem c110:Oi Tryz.prog 116:=VU (hd:=by kernel_rfl)
theorem c111:Ri Tryz.prog 92:=XD (hd:=by kernel_rfl) (h1:=c108) (h2:=c109) (h3:=c110)
theorem c112:FO T Tryz.prog 62:=Xt (hd:=by kernel_rfl) (h1:=c84) (h2:=c82) (h3:=c111)
theorem c113:E7 Tryz.prog 63:=V3 (hd:=by kernel_rfl)
theorem c114:IW T Tryz.prog 32:=RJ (hd:=by kernel_rfl) (h1:=c105) (h2:=c112) (h3:=c113)
theorem c115:Gi Tryz.prog 12:=RY (hd:=by kernel_rfl)
theorem c116:Oe Tryz.prog 93:=VB (hd:=by kernel_rfl) (h1:=c89) (h2:=c91)
theorem c117:Mz T Tryz.prog 64:=UW (hTm:=fun h hl=>hTm hl h) (hd:=by kernel_rfl) (h1:=c116) (h2:=c93) (h3:=c95)
theorem c118:NZ T Tryz.prog 33:=Wy (hd:=by kernel_rfl) (h1:=c87) (h2:=c88) (h3:=c117)
theorem c119:KS T Tryz.prog 11:=SL (hTm:=hTm) (hd:=by kernel_rfl) (h1:=c87) (h2:=c104) (h3:=c114) (h4:=c115) (h5:=c118)
theorem own:ownKnob Tryz.prog.godebug=none:=by kernel_rfl
theorem laidOut:laidOutB Tryz.prog=true:=by kernel_rfl
set_option maxRecDepth 100000 in
theorem contract(H:Type)(enc:TypeId×Value→H)(W:World)(base:Nat)(args:Array Value)(ds gs:List (DataW H))(before:List MemPlace)
  (hval:∀(j:Nat) t v,Tryz.f3.params[j]?=some t→args[j]?=some v→Value.okWide Tryz.prog W .any base t v)
  (hW:DataW.Whole enc Tryz.prog Tryz.f3.params.toList Rows.updatePutsSpec.vars false W args.toList ds gs before)
  (hwt:(DataW.weightsEach Tryz.prog (Tryz.f3.params.toList++Rows.updatePutsSpec.plain.varTypes Tryz.prog) (ds++gs)).all (·≤reachBytes)=true) (hL:laidMet Tryz.prog Rows.updatePutsRow.laid W):
  Calls Tryz.prog 3 args W fun e W'=>∃v,e=.returned v∧Rows.updatePutsSpec.post enc Tryz.prog Tryz.f3 false true false false W args v W':=by
 have hW':=hW
 obtain⟨p,q,hA0,hV,rfl,hfz,hnd⟩:=hW
 have hA:DataW.TrodAll enc Tryz.prog W 0 (fun _=>true) true Tryz.f3.params.toList args.toList ds p:=hA0
 rw[Tryz.params3] at hA hval hwt
 obtain⟨v0,vs0,d0,ds0,p0,q0,hargs,rfl,rfl,h0,r0⟩:=trodAll_cons hA
 obtain⟨v1,vs1,d1,ds1,p1,q1,rfl,rfl,rfl,h1,r1⟩:=trodAll_cons r0
 obtain⟨v2,vs2,d2,ds2,p2,q2,rfl,rfl,rfl,h2,r2⟩:=trodAll_cons r1
 obtain⟨rfl,rfl,rfl⟩:=trodAll_nil r2
 obtain rfl:args= #[v0,v1,v2]:=by cases args;simp_all
 obtain⟨rfl,rfl⟩:=trodVars_none hV
 obtain⟨cs0,v,rfl,hv'⟩:=Jv Tryz.underlying27 rdVal (hval 0 27 v0 rfl rfl) h0 (FF (j:=0) hwt rfl rfl)
 obtain⟨l,hl'⟩:=Po (sz:=1) (R:=Cb) Tryz.underlying28 (by kernel_rfl) (by omega) (of_decide_eq_true (by kernel_rfl)) (P6 (sz:=6) (R:=RSt) Tryz.underlying42 (by kernel_rfl) (by omega) (of_decide_eq_true (by kernel_rfl)) rdSt) (hval 1 28 v1 rfl rfl) h1 (FF (j:=1) hwt rfl rfl)
 obtain⟨cs2,x,rfl,hx'⟩:=Jv Tryz.underlying27 rdVal (hval 2 27 v2 rfl rfl) h2 (FF (j:=2) hwt rfl rfl)
 have ht:T (hw W):=tabs_of (.tail _ (.tail _ (.tail _ (.tail _ (.tail _ (.head _)))))) (.tail _ (.tail _ (.tail _ (.head _)))) (.tail _ (.tail _ (.tail _ (.tail _ (.head _))))) (.tail _ (.tail _ (.head _))) hL
 exact MM laidOut (by kernel_rfl) hW' rfl rfl (by kernel_rfl) Tryz.underlying4 ((Pu (f:=3) (f1:=5) (f2:=6) (f3:=7) (f4:=8) (f5:=9) (f6:=10) (f7:=11) (f8:=12) (hTm:=hTm) (hd:=by kernel_rfl) (h1:=c73) (h2:=c71) (h3:=c74) (h4:=c77) (h5:=c98) (h6:=c70) (h7:=c119) (h8:=c115) (d:=hw W) (ht:=ht) (hv:=hv') (hw:=hl') (hx:=hx')).yes)
set_option maxRecDepth 100000 in
theorem lifted(os:Os)(started:os.Started)(H:Type)(enc:TypeId×Value→H):
  ReturnsInHanded {} Tryz.checked os 3 .any (fun w args=>(Rows.updatePutsSpec.pre enc Tryz.prog Tryz.f3 [] false w args∧laidMetH Tryz.prog Rows.updatePutsRow.laid w)∧sizedMet enc Tryz.prog Tryz.f3 (OpenSpec.ofChange Rows.updatePutsSpec) false w args) (Rows.updatePutsSpec.post enc Tryz.prog Tryz.f3 false true false false):=by
 refine returnsInHanded_of_change_and (C:=Tryz.checked) (X:=fun w _=>laidMetH Tryz.prog Rows.updatePutsRow.laid w) (fun _ _ _ hh h=>h.of_heap hh) own started (by kernel_rfl) Tryz.func3
  (ChangeSpec.witness_shaped (enc:=enc) (C:=Tryz.checked) (os:=os) (X:=fun w _=>laidMetH Tryz.prog Rows.updatePutsRow.laid w) false (World.laidAll Tryz.prog os Rows.updatePutsRow.laid) #[.agg #[vZ 0,vZ 0,vZ 0,.string ⟨#[]⟩,.slice none 0 0,.slice none 0 0],.slice none 0 0,.agg #[vZ 0,vZ 0,vZ 0,.string ⟨#[]⟩,.slice none 0 0,.slice none 0 0]] 8 (World.laidAll_os _ _ _)
   (World.shaped_of_ZipB (by kernel_rfl) (by kernel_rfl)) (by kernel_rfl) (by kernel_rfl) (by kernel_rfl)
   (by rw[MakeChecks.laidMetH_plain _ _ _ (by kernel_rfl)];exact laidMet_laidAll _ (by kernel_rfl) (by kernel_rfl))) ?_
 intro W base args ds gs before hval hW _ hwt hL _
 rw[MakeChecks.laidMetH_plain _ _ _ (by kernel_rfl)] at hL
 exact contract H enc W base args ds gs before hval hW hwt hL
theorem held:Rows.UpdatePutsSaid:=
 OpenClaim.holds_of_wide 3 Tryz.f3 rfl rfl rfl rfl rfl rfl rfl ⟨rfl,rfl,rfl,rfl,rfl⟩ rfl rfl rfl rfl rfl (by kernel_rfl) Tryz.func3 (by kernel_rfl)
  (of_decide_eq_true (by kernel_rfl)) (by unfold Func.isWrapper;first|(rw[if_pos (by decide+kernel)];kernel_rfl)|(rw[if_neg (by decide+kernel)];exact⟨rfl,rfl⟩))
  (fun os started H enc _=>lifted os started H enc)
theorem proved:Rows.UpdatePutsCardSaid:=
 Claim7.holds_tied_plain_at .later [] [.data,.data,.data,.data,.data,.pinned] true (true, "8258f3fa6ba84dcb175fe2531726eb86862678f2679f3639fce1658bfa938791") false
  held (fun _ h=>by cases h) (by kernel_rfl) (fun _ h=>by cases h) updatePuts_row_tie rfl ⟨rfl,rfl⟩ (by kernel_rfl) rfl
  (fun f fn hf hfn=>by
   obtain rfl:f=3:=Option.some.inj ((show Tryz.prog.funcNamed "thimble/thimblelaw13.UpdatePuts" =some 3 by kernel_rfl).symm.trans hf)|>.symm;obtain rfl:fn=Tryz.f3:=(Option.some.inj (Tryz.func3.symm.trans hfn)).symm;exact⟨by kernel_rfl,fun j t ht=>by
    rw[Tryz.params3] at ht;have hm:t∈[27,28,27]:=by simpa using Array.mem_of_getElem? ht
    have hall:([27,28,27].all fun u=> !Tryz.prog.wantsStandIn u)=true:=by kernel_rfl
    exact(show Tryz.prog.wantsStandIn t=false by simpa using List.all_eq_true.1 hall t hm)⟩)
  (by kernel_rfl)
end Go.Proofs.YtoepkkjejljfbaaGreatDoor.updatePuts
