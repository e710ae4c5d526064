/-
  'thimblelaw22.TreeRoom' returns true for every row of calls, and leaves it as it is: no condition.
-/
import Derived.Test.YteekdjalpmjdhaaGreatRows
import Derived.Test.YteekdjalpmjdhaaGreatPrH
import Derived.Test.YteekdjalpmjdhaaGreatGkLay
namespace Go.Proofs.YteekdjalpmjdhaaGreat.treeRoom
open Go Go.Gk Go.Gk.Dev Go.Gk.Cch Go.Gk.Pgr Go.Gk.Chn Go.Gk.Tre Go.Gk.Node Go.ChangeShapes Go.WideShapes Go.ChangeAt Go.RowKit
theorem c0:OF Tryz.prog 77:=AaN (hd:=by kernel_rfl)
theorem c1:VJ Tryz.prog 78:=AbI (hd:=by kernel_rfl)
theorem c2:Ih Tryz.prog 118:=Y2 (hd:=by kernel_rfl)
theorem c3:JR Tryz.prog 79:=AaX (hd:=by kernel_rfl) (h1:=c2)
theorem c4:Vq Tryz.prog 80:=Ab6 (hd:=by kernel_rfl)
theorem c5:H2 Tryz.prog 86:=Zr (hd:=by kernel_rfl)
theorem c6:JC Tryz.prog 119:=Za (hd:=by kernel_rfl) (h1:=c5)
theorem c7:Ju Tryz.prog 110:=Aay (hd:=by kernel_rfl)
theorem c8:Tg Tryz.prog 81:=AaM (hd:=by kernel_rfl) (h1:=c2) (h2:=c6) (h3:=c7)
theorem c9:V5 Tryz.prog 120:=Acb (hd:=by kernel_rfl)
theorem c10:Wg Tryz.prog 82:=AbT (f2:=121) (hd:=by kernel_rfl) (h1:=c9)
theorem c11:OA Tryz.prog 37:=Wq (hd:=by kernel_rfl) (h1:=c0) (h2:=c1) (h3:=c3) (h4:=c4) (h5:=c8) (h6:=c10)
theorem c12:EH Tryz.prog 45:=YM (hd:=by kernel_rfl)
theorem c13:Ef Bb 8 Tryz.prog 99:=Rr (hd:=by kernel_rfl)
theorem c14:HP Tryz.prog 100:=Uo (t1:=64) (hd:=by kernel_rfl)
theorem c15:Lh Tryz.prog 58:=Aaw (hd:=by kernel_rfl) (h1:=c12) (h2:=c13) (h3:=c14)
theorem c16:Ss Tryz.prog 38:=AaT (hd:=by kernel_rfl) (h1:=c15)
theorem c17:IM Tryz.prog 11:=Vr (hd:=by kernel_rfl) (h1:=c11) (h2:=c16)
theorem c18:G3 Tryz.prog 49:=Y9 (hd:=by kernel_rfl)
theorem c19:KN Tryz.prog 52:=Aa3 (hd:=by kernel_rfl) (h1:=c18)
theorem c20:FO Tryz.prog 41:=Yy (hd:=by kernel_rfl)
theorem c21:GZ Tryz.prog 68:=Aa4 (hd:=by kernel_rfl) (h1:=c12) (h2:=c7)
theorem c22:RY Tryz.prog 171:=AaI (hd:=by kernel_rfl) (h:=c21)
theorem c23:Qf Tryz.prog 147:=Zz (hd:=by kernel_rfl)
theorem c24:Go.Gk.Pgr.F8 Tryz.prog 114:=PT (hd:=by kernel_rfl) (h1:=c12) (h2:=c23)
theorem c25:Qv Tryz.prog 145:=Zi (hd:=by kernel_rfl) (h0:=c22) (h1:=c24)
theorem c26:Ef AP 1 Tryz.prog 116:=O0 (hd:=by kernel_rfl)
theorem c27:O8 Tryz.prog 113:=AbA (hd:=by kernel_rfl) (h1:=c12) (h2:=c7) (h3:=c26)
theorem c28:MG Tryz.prog 111:=YN (hd:=by kernel_rfl) (h1:=c20) (h2:=c25) (h3:=c27)
theorem c29:J4 Tryz.prog 70:=XE (hd:=by kernel_rfl) (h1:=c28)
theorem c30:I2 Tryz.prog 101:=V6 (hd:=by kernel_rfl)
theorem c31:Fs Tryz.prog 180:=KG (hd:=by kernel_rfl)
theorem c32:Et Tryz.prog 167:=I9 (hd:=by kernel_rfl) (h1:=c31)
theorem c33:Fs Tryz.prog 181:=Nj (hd:=by kernel_rfl)
theorem c34:Et Tryz.prog 169:=JX (hd:=by kernel_rfl) (h1:=c33)
theorem c35:MM Tryz.prog 144:=Y5 (f3:=168) (f5:=170) (hd:=by kernel_rfl) (h1:=c30) (h2:=c32) (h3:=by kernel_rfl) (h4:=c34) (h5:=by kernel_rfl)
theorem c36:OH Tryz.prog 157:=Abh (hd:=by kernel_rfl)
theorem c37:LY Tryz.prog 135:=AaV (hd:=by kernel_rfl) (hc:=c36)
theorem c38:Jo Tryz.prog 103:=Oq (hd:=by kernel_rfl) (h1:=c35) (h2:=c37)
theorem c39:Ph Tryz.prog 146:=AaK (hd:=by kernel_rfl)
theorem c40:My Tryz.prog 112:=ZF (hd:=by kernel_rfl) (h1:=c38) (h2:=c39)
theorem c41:H4 Tryz.prog 71:=Zh (hd:=by kernel_rfl) (h1:=c40) (h2:=c27) (h3:=c24) (h4:=c21)
theorem c42:JL Tryz.prog 87:=Zb (hd:=by kernel_rfl)
theorem c43:Lz Tryz.prog 187:=Wa (hd:=by kernel_rfl)
theorem c44:Oj Tryz.prog 184:=Wr (hd:=by kernel_rfl) (h1:=c43)
theorem c45:PN Tryz.prog 176:=Zs (hd:=by kernel_rfl) (h1:=c44)
theorem c46:IC Tryz.prog 84:=Xy (hd:=by kernel_rfl) (h1:=c2)
theorem c47:TB Tryz.prog 185:=Aaq (f1:=188) (hd:=by kernel_rfl) (h:=by kernel_rfl)
theorem c48:PO Tryz.prog 177:=Yd (hd:=by kernel_rfl) (h1:=c46) (h2:=c47)
theorem c49:Ms Tryz.prog 164:=AaZ (hd:=by kernel_rfl) (h1:=c5) (h2:=c2) (h3:=c42) (h4:=c45) (h5:=c48)
theorem c50:Ir Tryz.prog 165:=W5 (hd:=by kernel_rfl) (h1:=c5) (h2:=c42)
theorem c51:FE Tryz.prog 140:=Aa7 (hd:=by kernel_rfl) (h1:=c12) (h2:=c7) (h3:=c26) (h4:=c49) (h5:=c50)
theorem c52:Go.Gk.Node.F8 Tryz.prog 186:=PT (hd:=by kernel_rfl) (h1:=c26)
theorem c53:Wf Tryz.prog 178:=AbS (hd:=by kernel_rfl) (h1:=c52)
theorem c54:Qk Tryz.prog 179:=YH (hd:=by kernel_rfl) (h1:=c52)
theorem c55:Qq Tryz.prog 166:=Zm (hd:=by kernel_rfl) (h1:=c53) (h2:=c54)
theorem c56:MC Tryz.prog 117:=YV (hd:=by kernel_rfl)
theorem c57:Sp Tryz.prog 141:=Aak (hd:=by kernel_rfl) (h1:=c55) (h2:=c38) (h3:=c39) (h4:=c56)
theorem c58:Jn Tryz.prog 98:=Zp (hd:=by kernel_rfl) (h1:=c51) (h2:=c57)
theorem c59:G5 Tryz.prog 74:=Xc (hd:=by kernel_rfl) (h1:=c58)
theorem c60:JB Tryz.prog 75 findD:=Abq (f:=75) (hd:=by kernel_rfl) (h1:=c30) (h2:=c56)
theorem c61:OT Tryz.prog 88:=Ab4 (hd:=by kernel_rfl)
theorem c62:Yg Tryz.prog 173:=AcY (hd:=by kernel_rfl) (h1:=c20) (h2:=c51)
theorem c63:N9 Tryz.prog 150:=Xx (hd:=by kernel_rfl) (h:=c62)
theorem c64:Jx Tryz.prog 122:=Yp (hd:=by kernel_rfl) (h1:=c63) (h2:=c20)
theorem c65:MF Tryz.prog 134:=Yz (hd:=by kernel_rfl) (h1:=c64) (h2:=c21)
theorem c66:MZ Tryz.prog 93:=Yr (hd:=by kernel_rfl) (h1:=c61) (h2:=c65)
theorem c67:Ks RBs Tryz.prog 115:=Rs (f1:=149) (hd:=by kernel_rfl)
theorem c68:N8 Tryz.prog 158:=Wi (hd:=by kernel_rfl) (h1:=c36)
theorem c69:RO Tryz.prog 159:=AbD (hd:=by kernel_rfl) (h1:=c26)
theorem c70:Qs Tryz.prog 136:=YT (hd:=by kernel_rfl) (h1:=c35) (h2:=c68) (h3:=c69) (h4:=c26) (h5:=c13)
theorem c71:H3 Tryz.prog 95:=YC (hd:=by kernel_rfl) (h1:=c38) (h2:=c41) (h3:=c37) (h4:=c70)
theorem c72:Ks Bb Tryz.prog 139:=Um (f1:=163) (hd:=by kernel_rfl)
theorem c73:JN Tryz.prog 97:=WX (hd:=by kernel_rfl) (h1:=c37) (h2:=c67) (h3:=c72) (h4:=c71)
theorem c74:OK Tryz.prog 72:=Abr (hd:=by kernel_rfl) (h1:=c59) (h2:=c60) (h3:=c66) (h4:=c26) (h5:=c67) (h6:=c71) (h8:=c73)
theorem c75:Qa Tryz.prog 73:=YX (hd:=by kernel_rfl)
theorem c76:Jr Tryz.prog 56:=Zv (hd:=by kernel_rfl) (h1:=c41)
theorem c77:Ol Tryz.prog 69:=W4 (hd:=by kernel_rfl) (h1:=c29) (h2:=c41) (h3:=c74) (h4:=c75) (h5:=c76)
theorem c78:K6 Tryz.prog 62:=AaA (hd:=by kernel_rfl) (h1:=c12) (h2:=c13) (h3:=c14)
theorem c79:SM Tryz.prog 92:=Aa5 (hd:=by kernel_rfl) (h:=c78)
theorem c80:I5 Tryz.prog 53:=Vw (hd:=by kernel_rfl) (h1:=c15) (h2:=c79)
theorem c81:GA Tryz.prog 35:=Y7 (hd:=by kernel_rfl) (h1:=c19) (h2:=c77) (h3:=c80)
theorem c82:I0 Tryz.prog 33:=VD (hd:=by kernel_rfl) (h1:=c18)
theorem c83:ID Tryz.prog 20:=XK (hd:=by kernel_rfl) (h1:=c18)
theorem c84:LO Tryz.prog 16:=Aa9 (hd:=by kernel_rfl) (h1:=c12)
theorem c85:PJ Tryz.prog 109:=YE (hd:=by kernel_rfl) (h1:=c64)
theorem c86:Kr Tryz.prog 76:=Xi (hd:=by kernel_rfl) (h1:=c26) (h2:=c61) (h3:=c85)
theorem c87:Mh Tryz.prog 36:=Abg (hd:=by kernel_rfl) (h1:=c19) (h2:=c59) (h3:=c60) (h4:=c86)
theorem c88:Ky RBs Tryz.prog 94:=Rn (hd:=by kernel_rfl)
theorem c89:G9 RBs Tryz.prog 160:=Uj (hd:=by kernel_rfl)
theorem c90:G9 Bb Tryz.prog 161:=Vz (hd:=by kernel_rfl)
theorem c91:TJ Tryz.prog 137:=Aat (hd:=by kernel_rfl) (h1:=c89) (h2:=c69) (h3:=c90)
theorem c92:Ky Bb Tryz.prog 138:=TV (hd:=by kernel_rfl)
theorem c93:PI Tryz.prog 96:=Yv (hd:=by kernel_rfl) (h1:=c58) (h2:=c91) (h3:=c71) (h4:=c21) (h5:=c88) (h6:=c92)
theorem c94:Si Tryz.prog 55:=Aav (hd:=by kernel_rfl) (h1:=c59) (h2:=c60) (h3:=c66) (h4:=c88) (h5:=c71) (h7:=c93) (h8:=c73)
theorem c95:K5 Tryz.prog 57:=V9 (hd:=by kernel_rfl) (h1:=c58) (h2:=c21)
theorem c96:PV Tryz.prog 54:=Yt (hd:=by kernel_rfl) (h1:=c94) (h2:=c76) (h3:=c95)
theorem c97:LV Tryz.prog 18:=AaL (hd:=by kernel_rfl) (h1:=c19) (h2:=c96) (h3:=c80)
theorem c98:M5 Tryz.prog 19:=Y6 (hd:=by kernel_rfl) (h1:=c18)
theorem c99:Ya Tryz.prog 10:=Vi (hd:=by kernel_rfl) (h1:=c17) (h2:=c81) (h3:=c82) (h4:=c83) (h5:=c84) (h6:=c87) (h7:=c97) (h8:=c98)
theorem c100:P8 Tryz.prog 39:=YP (hd:=by kernel_rfl)
theorem c101:ND Tryz.prog 40:=WE (hd:=by kernel_rfl)
theorem c102:JK Tryz.prog 83:=SE (hd:=by kernel_rfl)
theorem c103:MT Tryz.prog 43:=YA (hd:=by kernel_rfl) (h1:=c102)
theorem c104:PM Tryz.prog 42:=Zc (hd:=by kernel_rfl) (h1:=c103) (h2:=c102)
theorem c105:M0 Tryz.prog 85:=YI (hd:=by kernel_rfl)
theorem c106:Ov Tryz.prog 46:=WQ (hd:=by kernel_rfl) (h1:=c46) (h2:=c105)
theorem c107:Qw Tryz.prog 47:=YJ (hd:=by kernel_rfl) (h1:=c46) (h2:=c105)
theorem c108:Js Tryz.prog 13:=ZH (hd:=by kernel_rfl) (h1:=c12) (h2:=c106) (h3:=c107)
theorem c109:HF Tryz.prog 48:=Vu (hd:=by kernel_rfl) (h1:=c5) (h2:=c42)
theorem c110:KM Tryz.prog 14:=AaD (hd:=by kernel_rfl) (h1:=c12) (h2:=c109)
theorem c111:Qg Tryz.prog 44:=Yq (hd:=by kernel_rfl) (h1:=c102)
theorem c112:Qp Tryz.prog 12:=ZI (hd:=by kernel_rfl) (h1:=c100) (h2:=c101) (h3:=c82) (h4:=c20) (h5:=c84) (h6:=c81) (h7:=c104) (h8:=c97) (h9:=c103) (h10:=c108) (h11:=c110) (h12:=c87) (h13:=c111) (h14:=c83)
theorem c113:ML Tryz.prog 89:=YU (hd:=by kernel_rfl) (h1:=c64)
theorem c114:Tv Tryz.prog 50:=AaR (hd:=by kernel_rfl) (h1:=c59) (h3:=c61) (h4:=c113)
theorem c115:LG Tryz.prog 51:=Wc (ρ:=Tryz.laysSortI_ren) Tryz.laysSortI ⟨_,Tryz.func51,by kernel_rfl,by kernel_rfl⟩
theorem c116:OC Tryz.prog 15:=Xf (hd:=by kernel_rfl) (h1:=c18) (h2:=c114) (h3:=c115)
theorem c117:RS Tryz.prog 17:=Acj (hd:=by kernel_rfl) (h1:=c12)
theorem own:ownKnob Tryz.prog.godebug=none:=by kernel_rfl
theorem laidOut:laidOutB Tryz.prog=true:=by kernel_rfl
set_option maxRecDepth 100000 in
theorem contract(H:Type)(enc:TypeId×Value→H)(W:World)(base:Nat)(args:Array Value)(ds gs:List (DataW H))(before:List MemPlace)
  (hval:∀(j:Nat) t v,Tryz.f3.params[j]?=some t→args[j]?=some v→Value.okWide Tryz.prog W .any base t v)
  (hW:DataW.Whole enc Tryz.prog Tryz.f3.params.toList Rows.treeRoomSpec.vars false W args.toList ds gs before)
  (hwt:(DataW.weightsEach Tryz.prog (Tryz.f3.params.toList++Rows.treeRoomSpec.plain.varTypes Tryz.prog) (ds++gs)).all (·≤reachBytes)=true):
  Calls Tryz.prog 3 args W fun e W'=>∃v,e=.returned v∧Rows.treeRoomSpec.post enc Tryz.prog Tryz.f3 false true false false W args v W':=by
 have hW':=hW
 obtain⟨p,q,hA0,hV,rfl,hfz,hnd⟩:=hW
 have hA:DataW.TrodAll enc Tryz.prog W 0 (fun _=>true) true Tryz.f3.params.toList args.toList ds p:=hA0
 rw[Tryz.params3] at hA hval hwt
 obtain⟨v0,vs0,d0,ds0,p0,q0,hargs,rfl,rfl,h0,r0⟩:=trodAll_cons hA
 obtain⟨rfl,rfl,rfl⟩:=trodAll_nil r0
 obtain rfl:args= #[v0]:=by cases args;simp_all
 obtain⟨rfl,rfl⟩:=trodVars_none hV
 obtain⟨ax,hax⟩:=XI (sz:=3) Tryz.underlying22 (by kernel_rfl) (by omega) (of_decide_eq_true (by kernel_rfl)) (Acz (ti:=3) (tb:=5) (ts:=42) Tryz.underlying83 (by kernel_rfl) rfl rfl rfl (by kernel_rfl) (by kernel_rfl) (by kernel_rfl) Tryz.underlying3 Tryz.underlying5 Tryz.underlying42 (of_decide_eq_true (by kernel_rfl))) (hval 0 22 v0 rfl rfl) h0 (TP (j:=0) hwt rfl rfl)
 exact Vm laidOut (by kernel_rfl) hW' rfl rfl (by kernel_rfl) Tryz.underlying4 (treeRoom (f:=3) (f1:=10) (f2:=11) (f3:=12) (f4:=13) (f5:=14) (f6:=15) (f7:=16) (f8:=17) (f9:=18) (f10:=19) (f11:=20) (hd:=by kernel_rfl) (h1:=c99) (h2:=c17) (h3:=c112) (h4:=c108) (h5:=c110) (h6:=c116) (h7:=c84) (h8:=c117) (h9:=c97) (h10:=c98) (h11:=c83) (d:=hw W) (hw:=hax))
set_option maxRecDepth 100000 in
theorem lifted(os:Os)(started:os.Started)(H:Type)(enc:TypeId×Value→H):
  ReturnsInHanded {} Tryz.checked os 3 .any (Rows.treeRoomSpec.pre6 enc Tryz.prog Tryz.f3 Rows.treeRoomRow.domain false) (Rows.treeRoomSpec.post enc Tryz.prog Tryz.f3 false true false false):=by
 refine returnsInHanded_of_change_sized (C:=Tryz.checked) own started (by kernel_rfl) Tryz.func3
  (ChangeSpec.witness6 (enc:=enc) (C:=Tryz.checked) false ⟨#[], #[.slice none 0 0],[]⟩ 8 (by kernel_rfl) (by kernel_rfl) (by kernel_rfl) (by kernel_rfl)) ?_
 intro W base args ds gs before hval hW _ hwt _
 exact contract H enc W base args ds gs before hval hW hwt
theorem proved:Rows.TreeRoomSaid:=
 OpenClaim.holds_of_wide 3 Tryz.f3 rfl rfl rfl rfl rfl rfl rfl ⟨rfl,rfl,rfl,rfl,rfl⟩ rfl rfl rfl rfl rfl (by kernel_rfl) Tryz.func3 (by kernel_rfl)
  (of_decide_eq_true (by kernel_rfl)) (by unfold Func.isWrapper;first|(rw[if_pos (by decide+kernel)];kernel_rfl)|(rw[if_neg (by decide+kernel)];exact⟨rfl,rfl⟩))
  (fun os started H enc _=>lifted os started H enc)
end Go.Proofs.YteekdjalpmjdhaaGreat.treeRoom
