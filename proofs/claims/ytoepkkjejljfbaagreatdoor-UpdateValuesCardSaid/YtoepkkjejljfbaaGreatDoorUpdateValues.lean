/-
  'thimblelaw13.UpdateValues' returns true for every way and every value, and leaves them as they are; the tables that it reads are tied to the program's text. No condition.
-/
import Derived.Test.YtoepkkjejljfbaaGreatDoorRows
import Derived.Test.YtoepkkjejljfbaaGreatDoorCards
import Derived.Test.YtoepkkjejljfbaaGreatDoorTie
import Derived.Test.YtoepkkjejljfbaaGreatDoorC13
import Derived.Test.YtoepkkjejljfbaaGreatDoorPzH
import Derived.SevenTiedAt
namespace Go.Proofs.YtoepkkjejljfbaaGreatDoor.updateValues
open Go Go.Gk Go.Gk.Val Go.ChangeShapes Go.WideShapes Go.ChangeAt Go.RowKit
theorem c115:Gi Tryz.prog 12:=RY (hd:=by kernel_rfl)
theorem c120:LW Tryz.prog 70:=Vx (hd:=by kernel_rfl)
theorem c121:N5 Tryz.prog 40:=WQ (hd:=by kernel_rfl) (h1:=c120) (h2:=c49)
theorem c122:P4 T Tryz.prog 15:=XF (hTm:=hTm) (hd:=by kernel_rfl) (h1:=c14) (h2:=c121)
theorem c99:Ih Tryz.prog 35:=Ns (hd:=by kernel_rfl)
theorem c79:MW Tryz.prog 95:=R8 (hd:=by kernel_rfl)
theorem c80:IN Tryz.prog 68:=PN (hd:=by kernel_rfl) (h1:=c79)
theorem c81:DP T Tryz.prog 36:=Pd (hd:=by kernel_rfl) (h1:=c80)
theorem c100:MP Tryz.prog 37:=Sf (hd:=by kernel_rfl)
theorem c101:JL Tryz.prog 69:=ON (hd:=by kernel_rfl)
theorem c102:II Tryz.prog 38:=Qd (hd:=by kernel_rfl) (h1:=c101)
theorem c103:JH Tryz.prog 39:=OX (hd:=by kernel_rfl) (h1:=c102)
theorem c104:HK T Tryz.prog 14:=OW (hTm:=hTm) (hd:=by kernel_rfl) (h1:=c99) (h2:=c81) (h3:=c100) (h4:=c102) (h5:=c103)
theorem c78:Gt Tryz.prog 49:=O1 (hd:=by kernel_rfl)
theorem c82:KM Tryz.prog 91:=Sg (hd:=by kernel_rfl)
theorem c83:K7 Tryz.prog 113:=P8 (hd:=by kernel_rfl)
theorem c84:G7 T Tryz.prog 90:=SA (hd:=by kernel_rfl) (h1:=c82) (h2:=c83)
theorem c85:M5 T Tryz.prog 78:=Sn (hd:=by kernel_rfl) (h1:=c81) (h2:=c84)
theorem c86:Nf T Tryz.prog 50:=Se (hd:=by kernel_rfl) (h1:=c85)
theorem c87:EW T Tryz.prog 23:=Pq (hd:=by kernel_rfl) (h1:=c78) (h2:=c86)
theorem c123:Mu Tryz.prog 41:=Uc (hd:=by kernel_rfl)
theorem c124:My T Tryz.prog 16:=Xv (hTm:=hTm) (hd:=by kernel_rfl) (h1:=c87) (h2:=c123)
theorem c125:Kr Tryz.prog 17:=TM (hd:=by kernel_rfl)
theorem own:ownKnob Tryz.prog.godebug=none:=by kernel_rfl
theorem laidOut:laidOutB Tryz.prog=true:=by kernel_rfl
set_option maxRecDepth 100000 in
theorem contract(H:Type)(enc:TypeId×Value→H)(W:World)(base:Nat)(args:Array Value)(ds gs:List (DataW H))(before:List MemPlace)
  (hval:∀(j:Nat) t v,Tryz.f4.params[j]?=some t→args[j]?=some v→Value.okWide Tryz.prog W .any base t v)
  (hW:DataW.Whole enc Tryz.prog Tryz.f4.params.toList Rows.updateValuesSpec.vars false W args.toList ds gs before)
  (hwt:(DataW.weightsEach Tryz.prog (Tryz.f4.params.toList++Rows.updateValuesSpec.plain.varTypes Tryz.prog) (ds++gs)).all (·≤reachBytes)=true) (hL:laidMet Tryz.prog Rows.updateValuesRow.laid W):
  Calls Tryz.prog 4 args W fun e W'=>∃v,e=.returned v∧Rows.updateValuesSpec.post enc Tryz.prog Tryz.f4 false true false false W args v W':=by
 have hW':=hW
 obtain⟨p,q,hA0,hV,rfl,hfz,hnd⟩:=hW
 have hA:DataW.TrodAll enc Tryz.prog W 0 (fun _=>true) true Tryz.f4.params.toList args.toList ds p:=hA0
 rw[Tryz.params4] at hA hval hwt
 obtain⟨v0,vs0,d0,ds0,p0,q0,hargs,rfl,rfl,h0,r0⟩:=trodAll_cons hA
 obtain⟨v1,vs1,d1,ds1,p1,q1,rfl,rfl,rfl,h1,r1⟩:=trodAll_cons r0
 obtain⟨rfl,rfl,rfl⟩:=trodAll_nil r1
 obtain rfl:args= #[v0,v1]:=by cases args;simp_all
 obtain⟨rfl,rfl⟩:=trodVars_none hV
 obtain⟨l,hl'⟩:=Po (sz:=6) Tryz.underlying42 (by kernel_rfl) (by omega) (of_decide_eq_true (by kernel_rfl)) rdSt (hval 0 42 v0 rfl rfl) h0 (FF (j:=0) hwt rfl rfl)
 obtain⟨cs1,v,rfl,hv'⟩:=Jv Tryz.underlying27 rdVal (hval 1 27 v1 rfl rfl) h1 (FF (j:=1) hwt rfl rfl)
 have ht:T (hw W):=tabs_of (.tail _ (.tail _ (.tail _ (.tail _ (.tail _ (.head _)))))) (.tail _ (.tail _ (.tail _ (.head _)))) (.tail _ (.tail _ (.tail _ (.tail _ (.head _))))) (.tail _ (.tail _ (.head _))) hL
 exact MM laidOut (by kernel_rfl) hW' rfl rfl (by kernel_rfl) Tryz.underlying4 ((NH (f:=4) (f1:=5) (f2:=6) (f3:=13) (f4:=14) (f5:=15) (f6:=16) (f7:=12) (f8:=17) (hTm:=hTm) (hd:=by kernel_rfl) (h1:=c73) (h2:=c71) (h3:=c5) (h4:=c104) (h5:=c122) (h6:=c124) (h7:=c115) (h8:=c125) (d:=hw W) (ht:=ht) (hv:=hv') (hw:=hl')).yes)
set_option maxRecDepth 100000 in
theorem lifted(os:Os)(started:os.Started)(H:Type)(enc:TypeId×Value→H):
  ReturnsInHanded {} Tryz.checked os 4 .any (fun w args=>(Rows.updateValuesSpec.pre enc Tryz.prog Tryz.f4 [] false w args∧laidMetH Tryz.prog Rows.updateValuesRow.laid w)∧sizedMet enc Tryz.prog Tryz.f4 (OpenSpec.ofChange Rows.updateValuesSpec) false w args) (Rows.updateValuesSpec.post enc Tryz.prog Tryz.f4 false true false false):=by
 refine returnsInHanded_of_change_and (C:=Tryz.checked) (X:=fun w _=>laidMetH Tryz.prog Rows.updateValuesRow.laid w) (fun _ _ _ hh h=>h.of_heap hh) own started (by kernel_rfl) Tryz.func4
  (ChangeSpec.witness_shaped (enc:=enc) (C:=Tryz.checked) (os:=os) (X:=fun w _=>laidMetH Tryz.prog Rows.updateValuesRow.laid w) false (World.laidAll Tryz.prog os Rows.updateValuesRow.laid) #[.slice none 0 0,.agg #[vZ 0,vZ 0,vZ 0,.string ⟨#[]⟩,.slice none 0 0,.slice none 0 0]] 8 (World.laidAll_os _ _ _)
   (World.shaped_of_ZipB (by kernel_rfl) (by kernel_rfl)) (by kernel_rfl) (by kernel_rfl) (by kernel_rfl)
   (by rw[MakeChecks.laidMetH_plain _ _ _ (by kernel_rfl)];exact laidMet_laidAll _ (by kernel_rfl) (by kernel_rfl))) ?_
 intro W base args ds gs before hval hW _ hwt hL _
 rw[MakeChecks.laidMetH_plain _ _ _ (by kernel_rfl)] at hL
 exact contract H enc W base args ds gs before hval hW hwt hL
theorem held:Rows.UpdateValuesSaid:=
 OpenClaim.holds_of_wide 4 Tryz.f4 rfl rfl rfl rfl rfl rfl rfl ⟨rfl,rfl,rfl,rfl,rfl⟩ rfl rfl rfl rfl rfl (by kernel_rfl) Tryz.func4 (by kernel_rfl)
  (of_decide_eq_true (by kernel_rfl)) (by unfold Func.isWrapper;first|(rw[if_pos (by decide+kernel)];kernel_rfl)|(rw[if_neg (by decide+kernel)];exact⟨rfl,rfl⟩))
  (fun os started H enc _=>lifted os started H enc)
theorem proved:Rows.UpdateValuesCardSaid:=
 Claim7.holds_tied_plain_at .later [] [.data,.data,.data,.data,.data,.pinned] true (true, "8258f3fa6ba84dcb175fe2531726eb86862678f2679f3639fce1658bfa938791") false
  held (fun _ h=>by cases h) (by kernel_rfl) (fun _ h=>by cases h) updateValues_row_tie rfl ⟨rfl,rfl⟩ (by kernel_rfl) rfl
  (fun f fn hf hfn=>by
   obtain rfl:f=4:=Option.some.inj ((show Tryz.prog.funcNamed "thimble/thimblelaw13.UpdateValues" =some 4 by kernel_rfl).symm.trans hf)|>.symm;obtain rfl:fn=Tryz.f4:=(Option.some.inj (Tryz.func4.symm.trans hfn)).symm;exact⟨by kernel_rfl,fun j t ht=>by
    rw[Tryz.params4] at ht;have hm:t∈[42,27]:=by simpa using Array.mem_of_getElem? ht
    have hall:([42,27].all fun u=> !Tryz.prog.wantsStandIn u)=true:=by kernel_rfl
    exact(show Tryz.prog.wantsStandIn t=false by simpa using List.all_eq_true.1 hall t hm)⟩)
  (by kernel_rfl)
end Go.Proofs.YtoepkkjejljfbaaGreatDoor.updateValues
