/-
  'thimblelaw13.UpdateBuilds' returns true for every value, and leaves it as it is; the tables that it reads are tied to the program's text. No condition.
-/
import Derived.Test.YtoepkkjejljfbaaDoorRows
import Derived.Test.YtoepkkjejljfbaaDoorCards
import Derived.Test.YtoepkkjejljfbaaDoorTie
import Derived.Test.YtoepkkjejljfbaaDoorC13
import Derived.Test.YtoepkkjejljfbaaDoorPuF
import Derived.SevenTiedAt
namespace Go.Proofs.YtoepkkjejljfbaaDoor.updateBuilds
open Go Go.Gk Go.Gk.Val Go.ChangeShapes Go.WideShapes Go.ChangeAt Go.RowKit
theorem c80:Lh T Tryd.prog 17:=Sf (hd:=by kernel_rfl) (h1:=c53) (h2:=c63) (h3:=c68)
theorem c93:O4 Tryd.prog 59:=VC (hd:=by kernel_rfl) (h1:=c63) (h2:=c65)
theorem c94:Rg T Tryd.prog 38:=WB (hT:=hTm) (hd:=by kernel_rfl) (h1:=c14) (h2:=c53) (h3:=c93) (h4:=c68)
theorem c95:Pp T Tryd.prog 20:=VW (hTm:=hTm) (hd:=by kernel_rfl) (h1:=c14) (h2:=c94) (h3:=c68)
theorem c74:EX Tryd.prog 14:=Mg (hd:=by kernel_rfl)
theorem own:ownKnob Tryd.prog.godebug=none:=by kernel_rfl
theorem laidOut:laidOutB Tryd.prog=true:=by kernel_rfl
set_option maxRecDepth 100000 in
theorem contract(H:Type)(enc:TypeId×Value→H)(W:World)(base:Nat)(args:Array Value)(ds gs:List (DataW H))(before:List MemPlace)
  (hval:∀(j:Nat) t v,Tryd.f7.params[j]?=some t→args[j]?=some v→Value.okWide Tryd.prog W .any base t v)
  (hW:DataW.Whole enc Tryd.prog Tryd.f7.params.toList Rows.updateBuildsSpec.vars false W args.toList ds gs before)
  (hwt:(DataW.weightsEach Tryd.prog (Tryd.f7.params.toList++Rows.updateBuildsSpec.plain.varTypes Tryd.prog) (ds++gs)).all (·≤reachBytes)=true) (hL:laidMet Tryd.prog Rows.updateBuildsRow.laid W):
  Calls Tryd.prog 7 args W fun e W'=>∃v,e=.returned v∧Rows.updateBuildsSpec.post enc Tryd.prog Tryd.f7 false true false false W args v W':=by
 have hW':=hW
 obtain⟨p,q,hA0,hV,rfl,hfz,hnd⟩:=hW
 have hA:DataW.TrodAll enc Tryd.prog W 0 (fun _=>true) true Tryd.f7.params.toList args.toList ds p:=hA0
 rw[Tryd.params7] at hA hval hwt
 obtain⟨v0,vs0,d0,ds0,p0,q0,hargs,rfl,rfl,h0,r0⟩:=trodAll_cons hA
 obtain⟨rfl,rfl,rfl⟩:=trodAll_nil r0
 obtain rfl:args= #[v0]:=by cases args;simp_all
 obtain⟨rfl,rfl⟩:=trodVars_none hV
 obtain⟨cs1,v,rfl,hv'⟩:=Fm Tryd.underlying27 rdVal (hval 0 27 v0 rfl rfl) h0 (Di (j:=0) hwt rfl rfl)
 have ht:T (hw W):=tabs_of (.tail _ (.tail _ (.tail _ (.tail _ (.tail _ (.head _)))))) (.tail _ (.tail _ (.tail _ (.head _)))) (.tail _ (.tail _ (.tail _ (.tail _ (.head _))))) (.tail _ (.tail _ (.head _))) hL
 exact Ff laidOut (by kernel_rfl) hW' rfl rfl (by kernel_rfl) Tryd.underlying4 ((Lu (f:=7) (f1:=9) (f2:=15) (f3:=10) (f4:=17) (f5:=20) (f6:=14) (hTm:=hTm) (hd:=by kernel_rfl) (h1:=c71) (h2:=c72) (h3:=c17) (h4:=c80) (h5:=c95) (h6:=c74) (d:=hw W) (ht:=ht) (hv:=hv')).yes)
set_option maxRecDepth 100000 in
theorem lifted(os:Os)(started:os.Started)(H:Type)(enc:TypeId×Value→H):
  ReturnsInHanded {} Tryd.checked os 7 .any (fun w args=>(Rows.updateBuildsSpec.pre enc Tryd.prog Tryd.f7 [] false w args∧laidMetH Tryd.prog Rows.updateBuildsRow.laid w)∧sizedMet enc Tryd.prog Tryd.f7 (OpenSpec.ofChange Rows.updateBuildsSpec) false w args) (Rows.updateBuildsSpec.post enc Tryd.prog Tryd.f7 false true false false):=by
 refine returnsInHanded_of_change_and (C:=Tryd.checked) (X:=fun w _=>laidMetH Tryd.prog Rows.updateBuildsRow.laid w) (fun _ _ _ hh h=>h.of_heap hh) own started (by kernel_rfl) Tryd.func7
  (ChangeSpec.witness_shaped (enc:=enc) (C:=Tryd.checked) (os:=os) (X:=fun w _=>laidMetH Tryd.prog Rows.updateBuildsRow.laid w) false (World.laidAll Tryd.prog os Rows.updateBuildsRow.laid) #[.agg #[vZ 0,vZ 0,vZ 0,.string ⟨#[]⟩,.slice none 0 0,.slice none 0 0]] 8 (World.laidAll_os _ _ _)
   (World.shaped_of_ZipB (by kernel_rfl) (by kernel_rfl)) (by kernel_rfl) (by kernel_rfl) (by kernel_rfl)
   (by rw[MakeChecks.laidMetH_plain _ _ _ (by kernel_rfl)];exact laidMet_laidAll _ (by kernel_rfl) (by kernel_rfl))) ?_
 intro W base args ds gs before hval hW _ hwt hL _
 rw[MakeChecks.laidMetH_plain _ _ _ (by kernel_rfl)] at hL
 exact contract H enc W base args ds gs before hval hW hwt hL
theorem held:Rows.UpdateBuildsSaid:=
 OpenClaim.holds_of_wide 7 Tryd.f7 rfl rfl rfl rfl rfl rfl rfl ⟨rfl,rfl,rfl,rfl,rfl⟩ rfl rfl rfl rfl rfl (by kernel_rfl) Tryd.func7 (by kernel_rfl)
  (of_decide_eq_true (by kernel_rfl)) (by unfold Func.isWrapper;first|(rw[if_pos (by decide+kernel)];kernel_rfl)|(rw[if_neg (by decide+kernel)];exact⟨rfl,rfl⟩))
  (fun os started H enc _=>lifted os started H enc)
theorem proved:Rows.UpdateBuildsCardSaid:=
 Claim7.holds_tied_plain_at .later [] [.data,.data,.data,.data,.data,.pinned] true (true, "34e22afbd2083ce05dd0c26fc3d8aff4f7e8f5709dc6c253ec4b29abe1b0b1be") false
  held (fun _ h=>by cases h) (by kernel_rfl) (fun _ h=>by cases h) updateBuilds_row_tie rfl ⟨rfl,rfl⟩ (by kernel_rfl) rfl
  (fun f fn hf hfn=>by
   obtain rfl:f=7:=Option.some.inj ((show Tryd.prog.funcNamed "thimble/thimblelaw13.UpdateBuilds" =some 7 by kernel_rfl).symm.trans hf)|>.symm;obtain rfl:fn=Tryd.f7:=(Option.some.inj (Tryd.func7.symm.trans hfn)).symm;exact⟨by kernel_rfl,fun j t ht=>by
    rw[Tryd.params7] at ht;have hm:t∈[27]:=by simpa using Array.mem_of_getElem? ht
    have hall:([27].all fun u=> !Tryd.prog.wantsStandIn u)=true:=by kernel_rfl
    exact(show Tryd.prog.wantsStandIn t=false by simpa using List.all_eq_true.1 hall t hm)⟩)
  (by kernel_rfl)
end Go.Proofs.YtoepkkjejljfbaaDoor.updateBuilds
