/-
  'thimblelaw23.BulkLoads' returns true for every number and every row of pairs, and leaves them as they are: no condition.
-/
import Derived.Test.YteekdjalpmjdhaaGreatRows
import Derived.Test.YteekdjalpmjdhaaGreatPlH
namespace Go.Proofs.YteekdjalpmjdhaaGreat.bulkLoads
open Go Go.Gk Go.Gk.Dev Go.Gk.Cch Go.Gk.Pgr Go.Gk.Chn Go.Gk.Tre Go.Gk.Node Go.ChangeShapes Go.WideShapes Go.ChangeAt Go.RowKit
theorem c0:Nr Tryz.prog 77:=ZP (hd:=by kernel_rfl)
theorem c1:U5 Tryz.prog 78:=Aa2 (hd:=by kernel_rfl)
theorem c2:HK Tryz.prog 118:=W5 (hd:=by kernel_rfl)
theorem c3:JD Tryz.prog 79:=ZY (hd:=by kernel_rfl) (h1:=c2)
theorem c4:Ur Tryz.prog 80:=Aar (hd:=by kernel_rfl)
theorem c5:II Tryz.prog 86:=XU (hd:=by kernel_rfl)
theorem c6:IU Tryz.prog 119:=Xr (hd:=by kernel_rfl) (h1:=c5)
theorem c7:IL Tryz.prog 110:=Aaf (hd:=by kernel_rfl)
theorem c8:R5 Tryz.prog 81:=Zi (hd:=by kernel_rfl) (h1:=c2) (h2:=c6) (h3:=c7)
theorem c9:Uv Tryz.prog 120:=Aap (hd:=by kernel_rfl)
theorem c10:Ui Tryz.prog 82:=AaV (f2:=121) (hd:=by kernel_rfl) (h1:=c9)
theorem c11:Np Tryz.prog 37:=VI (hd:=by kernel_rfl) (h1:=c0) (h2:=c1) (h3:=c3) (h4:=c4) (h5:=c8) (h6:=c10)
theorem c12:FB Tryz.prog 45:=XT (hd:=by kernel_rfl)
theorem c13:Fh A7 8 Tryz.prog 99:=P8 (hd:=by kernel_rfl)
theorem c14:Ho Tryz.prog 100:=Sl (t1:=64) (hd:=by kernel_rfl)
theorem c15:HQ Tryz.prog 58:=ZQ (hd:=by kernel_rfl) (h1:=c12) (h2:=c13) (h3:=c14)
theorem c16:Ny Tryz.prog 38:=Aac (hd:=by kernel_rfl) (h1:=c15)
theorem c17:Ir Tryz.prog 11:=UI (hd:=by kernel_rfl) (h1:=c11) (h2:=c16)
theorem c18:OQ Tryz.prog 39:=Xq (hd:=by kernel_rfl)
theorem c19:Mx Tryz.prog 21:=Vz (hd:=by kernel_rfl) (h1:=c18)
theorem c20:Je Tryz.prog 22:=SA (hd:=by kernel_rfl)
theorem c21:Ft Tryz.prog 101:=Ul (hd:=by kernel_rfl)
theorem c22:MJ Tryz.prog 59:=We (hd:=by kernel_rfl) (h1:=c21)
theorem c23:F8 Tryz.prog 41:=XM (hd:=by kernel_rfl)
theorem c24:NK Tryz.prog 68:=ZH (hd:=by kernel_rfl) (h1:=c12) (h2:=c7)
theorem c25:Sd Tryz.prog 171:=Zz (hd:=by kernel_rfl) (h:=c24)
theorem c26:O6 Tryz.prog 147:=Ym (hd:=by kernel_rfl)
theorem c27:Go.Gk.Pgr.FO Tryz.prog 114:=OC (hd:=by kernel_rfl) (h1:=c12) (h2:=c26)
theorem c28:O4 Tryz.prog 145:=Xb (hd:=by kernel_rfl) (h0:=c25) (h1:=c27)
theorem c29:Fh AE 1 Tryz.prog 116:=Oa (hd:=by kernel_rfl)
theorem c30:N9 Tryz.prog 113:=Aas (hd:=by kernel_rfl) (h1:=c12) (h2:=c7) (h3:=c29)
theorem c31:Nz Tryz.prog 111:=ZB (hd:=by kernel_rfl) (h1:=c23) (h2:=c28) (h3:=c30)
theorem c32:ON Tryz.prog 102:=Yk (hd:=by kernel_rfl) (h1:=c31)
theorem c33:E9 Tryz.prog 180:=JV (hd:=by kernel_rfl)
theorem c34:D5 Tryz.prog 167:=Iy (hd:=by kernel_rfl) (h1:=c33)
theorem c35:E9 Tryz.prog 181:=Ma (hd:=by kernel_rfl)
theorem c36:D5 Tryz.prog 169:=Jk (hd:=by kernel_rfl) (h1:=c35)
theorem c37:Ox Tryz.prog 144:=Yb (f3:=168) (f5:=170) (hd:=by kernel_rfl) (h1:=c21) (h2:=c34) (h3:=by kernel_rfl) (h4:=c36) (h5:=by kernel_rfl)
theorem c38:Qv Tryz.prog 157:=Zn (hd:=by kernel_rfl)
theorem c39:R6 Tryz.prog 135:=Z3 (hd:=by kernel_rfl) (hc:=c38)
theorem c40:HF Tryz.prog 103:=Nc (hd:=by kernel_rfl) (h1:=c37) (h2:=c39)
theorem c41:Oj Tryz.prog 146:=Zt (hd:=by kernel_rfl)
theorem c42:LJ Tryz.prog 112:=XI (hd:=by kernel_rfl) (h1:=c40) (h2:=c41)
theorem c43:Ol Tryz.prog 104:=Aai (hd:=by kernel_rfl) (h1:=c42) (h3:=c27) (h2:=c30)
theorem c44:J6 Tryz.prog 60:=UN (hd:=by kernel_rfl) (h1:=c32) (h2:=c40) (h3:=c43)
theorem c45:MX Tryz.prog 61:=VZ (hd:=by kernel_rfl) (h2:=c40) (h3:=c43)
theorem c46:Ot Tryz.prog 62:=Aal (hd:=by kernel_rfl) (h1:=c12) (h2:=c13) (h3:=c14)
theorem c47:Lu Tryz.prog 34:=XV (hd:=by kernel_rfl) (h1:=c15)
theorem c48:Lo Tryz.prog 23:=Yp (hd:=by kernel_rfl) (h1:=c15) (h2:=c22) (h3:=c16) (h4:=c44) (h5:=c45) (h6:=c46) (h7:=c47)
theorem c49:Jo Tryz.prog 24:=SP (hd:=by kernel_rfl)
theorem c50:NU Tryz.prog 16:=Z6 (hd:=by kernel_rfl) (h1:=c12)
theorem c51:HJ Tryz.prog 49:=XC (hd:=by kernel_rfl)
theorem c52:IW Tryz.prog 19:=XG (hd:=by kernel_rfl) (h1:=c51)
theorem c53:Hb Tryz.prog 33:=Uj (hd:=by kernel_rfl) (h1:=c51)
theorem c54:GU Tryz.prog 20:=Vp (hd:=by kernel_rfl) (h1:=c51)
theorem c55:NN Tryz.prog 52:=Aaa (hd:=by kernel_rfl) (h1:=c51)
theorem c56:Oy Tryz.prog 36:=W7 (f2:=74) (f3:=75) (f4:=76) (hd:=by kernel_rfl) (h1:=c55)
theorem c57:JK Tryz.prog 63:=V4 (hd:=by kernel_rfl) (h1:=c15) (h2:=c52) (h3:=c53) (h4:=c54) (h5:=c47) (h6:=c56)
theorem c58:JJ Tryz.prog 108:=Xd (hd:=by kernel_rfl)
theorem c59:Lw Tryz.prog 87:=Yf (hd:=by kernel_rfl)
theorem c60:Kg Tryz.prog 187:=UM (hd:=by kernel_rfl)
theorem c61:Nt Tryz.prog 184:=VO (hd:=by kernel_rfl) (h1:=c60)
theorem c62:O8 Tryz.prog 176:=Xp (hd:=by kernel_rfl) (h1:=c61)
theorem c63:Nl Tryz.prog 84:=WQ (hd:=by kernel_rfl) (h1:=c2)
theorem c64:QL Tryz.prog 185:=ZE (f1:=188) (hd:=by kernel_rfl) (h:=by kernel_rfl)
theorem c65:OG Tryz.prog 177:=Xn (hd:=by kernel_rfl) (h1:=c63) (h2:=c64)
theorem c66:KJ Tryz.prog 164:=Zx (hd:=by kernel_rfl) (h1:=c5) (h2:=c2) (h3:=c59) (h4:=c62) (h5:=c65)
theorem c67:HW Tryz.prog 165:=Vo (hd:=by kernel_rfl) (h1:=c5) (h2:=c59)
theorem c68:E7 Tryz.prog 140:=Aak (hd:=by kernel_rfl) (h1:=c12) (h2:=c7) (h3:=c29) (h4:=c66) (h5:=c67)
theorem c69:Yq Tryz.prog 173:=AbF (hd:=by kernel_rfl) (h1:=c23) (h2:=c68)
theorem c70:MN Tryz.prog 150:=Vg (hd:=by kernel_rfl) (h:=c69)
theorem c71:Lg Tryz.prog 122:=Yx (hd:=by kernel_rfl) (h1:=c70) (h2:=c23)
theorem c72:Ln Tryz.prog 109:=XA (hd:=by kernel_rfl) (h1:=c71)
theorem c73:MO Tryz.prog 67:=VT (hd:=by kernel_rfl) (h2:=c58) (h3:=c72)
theorem c74:LI Tryz.prog 66:=Xs (hd:=by kernel_rfl) (h1:=c73)
theorem c75:Go.Gk.Node.FO Tryz.prog 186:=OC (hd:=by kernel_rfl) (h1:=c29)
theorem c76:Uu Tryz.prog 178:=AaG (hd:=by kernel_rfl) (h1:=c75)
theorem c77:OI Tryz.prog 179:=Yw (hd:=by kernel_rfl) (h1:=c75)
theorem c78:O1 Tryz.prog 166:=XO (hd:=by kernel_rfl) (h1:=c76) (h2:=c77)
theorem c79:Ll Tryz.prog 117:=XL (hd:=by kernel_rfl)
theorem c80:N3 Tryz.prog 141:=Aaj (hd:=by kernel_rfl) (h1:=c78) (h2:=c40) (h3:=c41) (h4:=c79)
theorem c81:LN Tryz.prog 105:=Ya (hd:=by kernel_rfl) (h1:=c68) (h2:=c80)
theorem c82:Nx Tryz.prog 75 findD:=ZW (f:=75) (hd:=by kernel_rfl) (h1:=c21) (h2:=c79)
theorem c83:OX Tryz.prog 65:=Xk (hd:=by kernel_rfl) (h1:=c81) (h2:=c82) (h3:=c21)
theorem c84:GP Tryz.prog 28:=VQ (hd:=by kernel_rfl) (h1:=c57) (h2:=c53) (h3:=c74) (h4:=c52) (h5:=c83)
theorem c85:TP Tryz.prog 25:=Vb (hd:=by kernel_rfl) (h1:=c17) (h2:=c48) (h3:=c84) (h4:=c54)
theorem c86:OW Tryz.prog 98:=XP (hd:=by kernel_rfl) (h1:=c68) (h2:=c80)
theorem c87:My Tryz.prog 74:=WY (hd:=by kernel_rfl) (h1:=c86)
theorem c88:JJ Tryz.prog 88:=Wy (hd:=by kernel_rfl)
theorem c89:Jh Tryz.prog 76:=VS (hd:=by kernel_rfl) (h1:=c29) (h2:=c88) (h3:=c72)
theorem c90:NF Tryz.prog 36:=Z8 (hd:=by kernel_rfl) (h1:=c55) (h2:=c87) (h3:=c82) (h4:=c89)
theorem c91:QA Tryz.prog 26:=Aah (hd:=by kernel_rfl) (h1:=c90) (h2:=c54)
theorem c92:NB Tryz.prog 106:=Zu (hd:=by kernel_rfl)
theorem c93:OL Tryz.prog 89:=X3 (hd:=by kernel_rfl) (h1:=c71)
theorem c94:Ko Tryz.prog 107:=TX (hd:=by kernel_rfl) (h1:=c58) (h2:=c93) (h3:=c92)
theorem c95:Un Tryz.prog 64:=Aba (hd:=by kernel_rfl) (h1:=c81) (h2:=c92) (h3:=c21) (h4:=c94)
theorem c96:I8 Tryz.prog 27:=Vk (hd:=by kernel_rfl) (h1:=c57) (h2:=c53) (h3:=c52) (h4:=c95) (h5:=c54)
theorem c97:J8 Tryz.prog 29:=UK (hd:=by kernel_rfl)
theorem own:ownKnob Tryz.prog.godebug=none:=by kernel_rfl
theorem laidOut:laidOutB Tryz.prog=true:=by kernel_rfl
set_option maxRecDepth 100000 in
theorem contract(H:Type)(enc:TypeId×Value→H)(W:World)(base:Nat)(args:Array Value)(ds gs:List (DataW H))(before:List MemPlace)
  (hval:∀(j:Nat) t v,Tryz.f4.params[j]?=some t→args[j]?=some v→Value.okWide Tryz.prog W .any base t v)
  (hW:DataW.Whole enc Tryz.prog Tryz.f4.params.toList Rows.bulkLoadsSpec.vars false W args.toList ds gs before)
  (hwt:(DataW.weightsEach Tryz.prog (Tryz.f4.params.toList++Rows.bulkLoadsSpec.plain.varTypes Tryz.prog) (ds++gs)).all (·≤reachBytes)=true):
  Calls Tryz.prog 4 args W fun e W'=>∃v,e=.returned v∧Rows.bulkLoadsSpec.post enc Tryz.prog Tryz.f4 false true false false W args v W':=by
 have hW':=hW
 obtain⟨p,q,hA0,hV,rfl,hfz,hnd⟩:=hW
 have hA:DataW.TrodAll enc Tryz.prog W 0 (fun _=>true) true Tryz.f4.params.toList args.toList ds p:=hA0
 rw[Tryz.params4] at hA hval hwt
 obtain⟨v0,vs0,d0,ds0,p0,q0,hargs,rfl,rfl,h0,r0⟩:=trodAll_cons hA
 obtain⟨v1,vs1,d1,ds1,p1,q1,rfl,rfl,rfl,h1,r1⟩:=trodAll_cons r0
 obtain⟨rfl,rfl,rfl⟩:=trodAll_nil r1
 obtain rfl:args= #[v0,v1]:=by cases args;simp_all
 obtain⟨rfl,rfl⟩:=trodVars_none hV
 obtain⟨n,rfl, -, -⟩:=Aab Tryz.underlying3 (hval 0 3 v0 rfl rfl) h0 (Md (j:=0) hwt rfl rfl)
 obtain⟨ax,hax⟩:=Vq (sz:=2) Tryz.underlying44 (by kernel_rfl) (by omega) (of_decide_eq_true (by kernel_rfl)) (AbD (tb:=5) (ts:=42) Tryz.underlying102 (by kernel_rfl) rfl rfl (by kernel_rfl) (by kernel_rfl) Tryz.underlying5 Tryz.underlying42 (of_decide_eq_true (by kernel_rfl))) (hval 1 44 v1 rfl rfl) h1 (Md (j:=1) hwt rfl rfl)
 exact UY laidOut (by kernel_rfl) hW' rfl rfl (by kernel_rfl) Tryz.underlying4 (bulkLoads (f:=4) (f1:=11) (f2:=21) (f3:=22) (f4:=23) (f5:=24) (f6:=16) (f7:=25) (f8:=26) (f9:=27) (f10:=28) (f11:=29) (hd:=by kernel_rfl) (h1:=c17) (h2:=c19) (h3:=c20) (h4:=c48) (h5:=c49) (h6:=c50) (h7:=c85) (h8:=c91) (h9:=c96) (h10:=c84) (h11:=c97) (d:=hw W) (hw:=hax))
set_option maxRecDepth 100000 in
theorem lifted(os:Os)(started:os.Started)(H:Type)(enc:TypeId×Value→H):
  ReturnsInHanded {} Tryz.checked os 4 .any (Rows.bulkLoadsSpec.pre6 enc Tryz.prog Tryz.f4 Rows.bulkLoadsRow.domain false) (Rows.bulkLoadsSpec.post enc Tryz.prog Tryz.f4 false true false false):=by
 refine returnsInHanded_of_change_sized (C:=Tryz.checked) own started (by kernel_rfl) Tryz.func4
  (ChangeSpec.witness6 (enc:=enc) (C:=Tryz.checked) false ⟨#[], #[vZ 0,nV],[]⟩ 8 (by kernel_rfl) (by kernel_rfl) (by kernel_rfl) (by kernel_rfl)) ?_
 intro W base args ds gs before hval hW _ hwt _
 exact contract H enc W base args ds gs before hval hW hwt
theorem proved:Rows.BulkLoadsSaid:=
 OpenClaim.holds_of_wide 4 Tryz.f4 rfl rfl rfl rfl rfl rfl rfl ⟨rfl,rfl,rfl,rfl,rfl⟩ rfl rfl rfl rfl rfl (by kernel_rfl) Tryz.func4 (by kernel_rfl)
  (of_decide_eq_true (by kernel_rfl)) (by unfold Func.isWrapper;first|(rw[if_pos (by decide+kernel)];kernel_rfl)|(rw[if_neg (by decide+kernel)];exact⟨rfl,rfl⟩))
  (fun os started H enc _=>lifted os started H enc)
end Go.Proofs.YteekdjalpmjdhaaGreat.bulkLoads
