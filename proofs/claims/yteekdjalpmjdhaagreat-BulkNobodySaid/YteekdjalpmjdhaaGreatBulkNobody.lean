/-
  'thimblelaw23.BulkNobody' returns true for every row of bytes and every number, and leaves them as they are: no condition.
-/
import Derived.Test.YteekdjalpmjdhaaGreatRows
import Derived.Test.YteekdjalpmjdhaaGreatPnC
namespace Go.Proofs.YteekdjalpmjdhaaGreat.bulkNobody
open Go Go.Gk Go.Gk.Dev Go.Gk.Cch Go.Gk.Pgr Go.Gk.Chn Go.Gk.Tre Go.Gk.Node Go.ChangeShapes Go.WideShapes Go.ChangeAt Go.RowKit
theorem c0:Fs Tryz.prog 77:=KO (hd:=by kernel_rfl)
theorem c1:Ik Tryz.prog 78:=K7 (hd:=by kernel_rfl)
theorem c2:EB Tryz.prog 118:=Jv (hd:=by kernel_rfl)
theorem c3:DP Tryz.prog 79:=KU (hd:=by kernel_rfl) (h1:=c2)
theorem c4:Ip Tryz.prog 80:=K0 (hd:=by kernel_rfl)
theorem c5:FX Tryz.prog 86:=JT (hd:=by kernel_rfl)
theorem c6:DE Tryz.prog 119:=JX (hd:=by kernel_rfl) (h1:=c5)
theorem c7:Hd Tryz.prog 110:=KH (hd:=by kernel_rfl)
theorem c8:G5 Tryz.prog 81:=Ku (hd:=by kernel_rfl) (h1:=c2) (h2:=c6) (h3:=c7)
theorem c9:HT Tryz.prog 120:=Lp (hd:=by kernel_rfl)
theorem c10:H2 Tryz.prog 82:=K2 (f2:=121) (hd:=by kernel_rfl) (h1:=c9)
theorem c11:Fj Tryz.prog 37:=Je (hd:=by kernel_rfl) (h1:=c0) (h2:=c1) (h3:=c3) (h4:=c4) (h5:=c8) (h6:=c10)
theorem c12:F4 Tryz.prog 45:=JC (hd:=by kernel_rfl)
theorem c13:F5 AT 8 Tryz.prog 99:=Gx (hd:=by kernel_rfl)
theorem c14:DV Tryz.prog 100:=Hn (t1:=64) (hd:=by kernel_rfl)
theorem c15:Ec Tryz.prog 58:=Kx (hd:=by kernel_rfl) (h1:=c12) (h2:=c13) (h3:=c14)
theorem c16:GU Tryz.prog 38:=KC (hd:=by kernel_rfl) (h1:=c15)
theorem c17:Ew Tryz.prog 11:=HS (hd:=by kernel_rfl) (h1:=c11) (h2:=c16)
theorem c18:CB Tryz.prog 49:=Jp (hd:=by kernel_rfl)
theorem c19:Fc Tryz.prog 19:=Jo (hd:=by kernel_rfl) (h1:=c18)
theorem c20:Cx Tryz.prog 33:=Ho (hd:=by kernel_rfl) (h1:=c18)
theorem c21:Cx Tryz.prog 20:=IB (hd:=by kernel_rfl) (h1:=c18)
theorem c22:Gd Tryz.prog 34:=JM (hd:=by kernel_rfl) (h1:=c15)
theorem c23:F8 Tryz.prog 52:=J2 (hd:=by kernel_rfl) (h1:=c18)
theorem c24:F7 Tryz.prog 36:=J7 (f2:=74) (f3:=75) (f4:=76) (hd:=by kernel_rfl) (h1:=c23)
theorem c25:CU Tryz.prog 63:=HM (hd:=by kernel_rfl) (h1:=c15) (h2:=c19) (h3:=c20) (h4:=c21) (h5:=c22) (h6:=c24)
theorem c26:Es Tryz.prog 28:=Ir (f2:=33) (f3:=66) (f4:=19) (f5:=65) (hd:=by kernel_rfl) (h1:=c25)
theorem c27:Gb Tryz.prog 45:=JJ (hd:=by kernel_rfl)
theorem c28:DO Tryz.prog 58:=Jh (f2:=99) (f3:=100) (hd:=by kernel_rfl) (h1:=c27)
theorem c29:CO Tryz.prog 63:=H6 (f2:=19) (f3:=33) (f4:=20) (f5:=34) (f6:=36) (hd:=by kernel_rfl) (h1:=c28)
theorem c30:Ek Tryz.prog 28:=Ii (f2:=33) (f3:=66) (f4:=19) (f5:=65) (hd:=by kernel_rfl) (h1:=c29)
theorem c31:Ea Tryz.prog 27:=HP (f2:=33) (f3:=19) (f4:=64) (f5:=20) (hd:=by kernel_rfl) (h1:=c25)
theorem c32:Ee Tryz.prog 27:=Il (f2:=33) (f3:=19) (f4:=64) (f5:=20) (hd:=by kernel_rfl) (h1:=c29)
theorem c33:Ff Tryz.prog 30:=IU (f2:=15) (f3:=68) (hd:=by kernel_rfl) (h1:=c25)
theorem c34:E7 Tryz.prog 30:=IH (f2:=15) (f3:=68) (hd:=by kernel_rfl) (h1:=c29)
theorem c35:E1 Tryz.prog 23:=I0 (f2:=59) (f3:=38) (f4:=60) (f5:=61) (f6:=62) (f7:=34) (hd:=by kernel_rfl) (h1:=c28)
theorem own:ownKnob Tryz.prog.godebug=none:=by kernel_rfl
theorem laidOut:laidOutB Tryz.prog=true:=by kernel_rfl
set_option maxRecDepth 100000 in
theorem contract(H:Type)(enc:TypeId×Value→H)(W:World)(base:Nat)(args:Array Value)(ds gs:List (DataW H))(before:List MemPlace)
  (hval:∀(j:Nat) t v,Tryz.f5.params[j]?=some t→args[j]?=some v→Value.okWide Tryz.prog W .any base t v)
  (hW:DataW.Whole enc Tryz.prog Tryz.f5.params.toList Rows.bulkNobodySpec.vars false W args.toList ds gs before)
  (hwt:(DataW.weightsEach Tryz.prog (Tryz.f5.params.toList++Rows.bulkNobodySpec.plain.varTypes Tryz.prog) (ds++gs)).all (·≤reachBytes)=true):
  Calls Tryz.prog 5 args W fun e W'=>∃v,e=.returned v∧Rows.bulkNobodySpec.post enc Tryz.prog Tryz.f5 false true false false W args v W':=by
 have hW':=hW
 obtain⟨p,q,hA0,hV,rfl,hfz,hnd⟩:=hW
 have hA:DataW.TrodAll enc Tryz.prog W 0 (fun _=>true) true Tryz.f5.params.toList args.toList ds p:=hA0
 rw[Tryz.params5] at hA hval hwt
 obtain⟨v0,vs0,d0,ds0,p0,q0,hargs,rfl,rfl,h0,r0⟩:=trodAll_cons hA
 obtain⟨v1,vs1,d1,ds1,p1,q1,rfl,rfl,rfl,h1,r1⟩:=trodAll_cons r0
 obtain⟨rfl,rfl,rfl⟩:=trodAll_nil r1
 obtain rfl:args= #[v0,v1]:=by cases args;simp_all
 obtain⟨rfl,rfl⟩:=trodVars_none hV
 obtain⟨kx,hkx⟩:=IS (sz:=1) Tryz.underlying42 (by kernel_rfl) (by omega) (of_decide_eq_true (by kernel_rfl)) (Kr Tryz.underlying5) (hval 0 42 v0 rfl rfl) h0 (EY (j:=0) hwt rfl rfl)
 obtain⟨n,rfl, -, -⟩:=Ks Tryz.underlying3 (hval 1 3 v1 rfl rfl) h1 (EY (j:=1) hwt rfl rfl)
 obtain⟨ka,kc,rfl⟩:=RSl.val hkx
 exact Ij laidOut (by kernel_rfl) hW' rfl rfl (by kernel_rfl) Tryz.underlying4 (Gt (f:=5) (f1:=11) (f2:=28) (f3:=27) (f4:=30) (f5:=23) (hd:=by kernel_rfl) (h1:=c17) (h2:=c26) (h2':=c30) (h3:=c31) (h3':=c32) (h4:=c33) (h4':=c34) (h5:=c35) (d:=hw W))
set_option maxRecDepth 100000 in
theorem lifted(os:Os)(started:os.Started)(H:Type)(enc:TypeId×Value→H):
  ReturnsInHanded {} Tryz.checked os 5 .any (Rows.bulkNobodySpec.pre6 enc Tryz.prog Tryz.f5 Rows.bulkNobodyRow.domain false) (Rows.bulkNobodySpec.post enc Tryz.prog Tryz.f5 false true false false):=by
 refine returnsInHanded_of_change_sized (C:=Tryz.checked) own started (by kernel_rfl) Tryz.func5
  (ChangeSpec.witness6 (enc:=enc) (C:=Tryz.checked) false ⟨#[], #[.slice none 0 0,vZ 0],[]⟩ 8 (by kernel_rfl) (by kernel_rfl) (by kernel_rfl) (by kernel_rfl)) ?_
 intro W base args ds gs before hval hW _ hwt _
 exact contract H enc W base args ds gs before hval hW hwt
theorem proved:Rows.BulkNobodySaid:=
 OpenClaim.holds_of_wide 5 Tryz.f5 rfl rfl rfl rfl rfl rfl rfl ⟨rfl,rfl,rfl,rfl,rfl⟩ rfl rfl rfl rfl rfl (by kernel_rfl) Tryz.func5 (by kernel_rfl)
  (of_decide_eq_true (by kernel_rfl)) (by unfold Func.isWrapper;first|(rw[if_pos (by decide+kernel)];kernel_rfl)|(rw[if_neg (by decide+kernel)];exact⟨rfl,rfl⟩))
  (fun os started H enc _=>lifted os started H enc)
end Go.Proofs.YteekdjalpmjdhaaGreat.bulkNobody
