/-
  'thimbletop.TopReads' returns true for all texts and all ways that hold together at most so much as the given bound says, and leaves them as they are; the tables that it reads are tied to the program's text.
-/
import Derived.Test.YtakjmidegfgjoaaGreatDoorRows
import Derived.Test.YtakjmidegfgjoaaGreatDoorCards
import Derived.Test.YtakjmidegfgjoaaGreatDoorTie
import Derived.Test.YtakjmidegfgjoaaGreatDoorGkLay
import Derived.Test.YtakjmidegfgjoaaGreatDoorPtH
import Derived.Shelf.Strings.BuilderX
import Derived.Lay
import Derived.LaidOnce
import Derived.MakeChecks
import Derived.SevenTiedAt
import Derived.Deep.DeepHandedRow
namespace Go.Proofs.YtakjmidegfgjoaaGreatDoor.topReads
open Go Go.Gk Go.Gk.Val Go.Gk.Jsn Go.Proofs Go.Shelf Go.ChangeShapes Go.WideShapes Go.ChangeAt Go.RowKit
abbrev T:Ad→Prop:=UX 1 2 0 6
theorem hTm{d d':Ad}(hl:Le d d')(h:T d):T d':=h.mono hl
theorem hTtensV{d:Ad}(h:T d):DCs d 0 0 Ij:=h.1.2
theorem hTtensV_G_internal_strconv_uint64pow10{d:Ad}(h:T d):DCs d 6 0 Ij:=h.2
theorem hTutf{d:Ad}(h:T d):Jx (Tryz.laysValid_ren.g 3) (Tryz.laysValid_ren.g 4) d:=h.1.1
theorem builderX:Builder.Extra Tryz.prog Tryz.laysRep_ren where
 sizeBuilder:=by kernel_rfl
 liesBuilder:=by kernel_rfl
 t5:=Tryz.underlying5
 a5:=Tryz.isAgg5
 z5:=Tryz.sizeOf5
 v5:=Tryz.zeroValue5
 infoByte:=by kernel_rfl
 cellsByte:=by kernel_rfl
 sizeByte:=by kernel_rfl
 neB5:=by decide
theorem c0:Jsn.Oc Tryz.prog 33:=Jsn.Y4 (ρ:=Tryz.laysIdx_ren) Tryz.laysIdx ⟨_,Tryz.func33,by kernel_rfl,by kernel_rfl⟩
theorem c1:Si Tryz.prog 125:=ZE (hd:=by kernel_rfl)
theorem c2:UR Tryz.prog 98:=Aai (hd:=by kernel_rfl) (h1:=c1)
theorem c3:Uo Tryz.prog 65:=Aag (hd:=by kernel_rfl) (h1:=c2)
theorem c4:IJ 128 Tryz.prog 99:=Zt (hd:=by kernel_rfl)
theorem c5:IJ 0 Tryz.prog 66:=YD (hd:=by kernel_rfl) (h1:=c4)
theorem c6:Jsn.UO T Tryz.prog 67:=Jsn.Z7 (ρ:=Tryz.laysDec_ren) Tryz.laysDec ⟨_,Tryz.func67,by kernel_rfl,by kernel_rfl⟩ (fun d h=>hTutf h)
theorem c7:PG T Tryz.prog 34:=WX (hd:=by kernel_rfl) (h1:=c3) (h2:=c5) (h3:=c6)
theorem c8:QW Tryz.prog 35:=ZR (hd:=by kernel_rfl)
theorem c9:Jsn.NZ Tryz.prog 101:=Jsn.YO (ρ:=Tryz.laysPref_ren) Tryz.laysPref ⟨_,Tryz.func101,by kernel_rfl,by kernel_rfl⟩
theorem c10:N9 Tryz.prog 102:=Zp (hd:=by kernel_rfl)
theorem c11:Lh Tryz.prog 103:=ZD (hd:=by kernel_rfl)
theorem c12:Ux Tryz.prog 104:=AaI (hd:=by kernel_rfl) (h1:=c9) (h2:=c10)
theorem c13:Jsn.UB Tryz.prog 105:=Jsn.AaS (ρ:=Tryz.laysTrL_ren) Tryz.laysTrL ⟨_,Tryz.func105,by kernel_rfl,by kernel_rfl⟩
theorem c14:Jsn.Un Tryz.prog 106:=Jsn.Aal (ρ:=Tryz.laysTrR_ren) Tryz.laysTrR ⟨_,Tryz.func106,by kernel_rfl,by kernel_rfl⟩
theorem c15:Sp Tryz.prog 134:=YA (g1:=4) (g2:=5) (f3:=159) (hd:=by kernel_rfl)
theorem c16:Pm T Tryz.prog 107:=Xq (g3:=0) (hT:=fun d h=>hTtensV h) (hd:=by kernel_rfl) (h1:=c11) (h2:=c15)
theorem c17:Hr T Tryz.prog 68:=VM (hd:=by kernel_rfl) (h1:=c9) (h2:=c10) (h3:=c11) (h4:=c12) (h5:=c13) (h6:=c14) (h7:=c16)
theorem c18:Q4 T Tryz.prog 36:=Z1 (hd:=by kernel_rfl) (h1:=c0) (h2:=c17)
theorem c19:IW T Tryz.prog 12:=XV (hd:=by kernel_rfl) (h1:=c0) (h2:=c7) (h3:=c8) (h4:=c18)
theorem c20:NQ Tryz.prog 13:=ZW (hd:=by kernel_rfl)
theorem c21:KS Tryz.prog 14:=Z3 (hd:=by kernel_rfl)
theorem c22:Qy Tryz.prog 16:=Aa1 (hd:=by kernel_rfl) (h1:=c21)
theorem c23:Ko Tryz.prog 69:=SQ (hd:=by kernel_rfl)
theorem c24:Xy T Tryz.prog 80:=Abd (ρ:=Tryz.laysValid_ren) Tryz.laysValid ⟨_,Tryz.func80,by kernel_rfl,by kernel_rfl⟩ (fun d h=>hTutf h)
theorem c25:Ek T Tryz.prog 45:=XW (hd:=by kernel_rfl) (h1:=c24)
theorem c26:Mz Tryz.prog 75:=Xt (hd:=by kernel_rfl)
theorem c27:LY Tryz.prog 43:=Ut (f1:=76) (hd:=by kernel_rfl) (h1:=by kernel_rfl) (h2:=c26)
theorem c28:Sl Tryz.prog 77:=Y3 (hd:=by kernel_rfl)
theorem c29:Ow Tryz.prog 92:=Zm (hd:=by kernel_rfl)
theorem c30:Jg T Tryz.prog 78:=Aay (g2:=0) (hT:=fun d h=>hTtensV h) (hd:=by kernel_rfl) (h1:=c11) (h3:=c29)
theorem c31:Nf T Tryz.prog 79:=Vd (hd:=by kernel_rfl) (h1:=c25)
theorem c32:U9 T Tryz.prog 44:=AaC (hd:=by kernel_rfl) (h1:=c28) (h2:=c30) (h3:=c25) (h4:=c31) (h5:=c26)
theorem c33:Iz T Tryz.prog 20:=WK (hd:=by kernel_rfl) (h1:=c27) (h2:=c32)
theorem c34:Lw Tryz.prog 70:=Ui (ρ:=Tryz.laysSort_ren) Tryz.laysSort ⟨_,Tryz.func70,by kernel_rfl,by kernel_rfl⟩
theorem c35:Pe A9 16 Tryz.prog 48:=VE (hd:=by kernel_rfl)
theorem c36:J3 Tryz.prog 23:=XF (hd:=by kernel_rfl) (h1:=c35)
theorem c37:OT T Tryz.prog 37:=XB (hTm:=fun h hl=>hTm hl h) (hd:=by kernel_rfl) (h1:=c23) (h2:=c25) (h3:=c33) (h4:=c34) (h5:=c36)
theorem c38:MD T Tryz.prog 15:=Yz (hd:=by kernel_rfl) (h1:=c37)
theorem c39:Hn T Tryz.prog 4:=V7 (hT:=hTm) (hd:=by kernel_rfl) (h1:=c19) (h2:=c20) (h3:=c21) (h4:=c22) (h5:=c38)
theorem c40:Py Tryz.prog 38:=V3 (hd:=by kernel_rfl)
theorem c41:Sx Tryz.prog 71:=YN (hd:=by kernel_rfl)
theorem c42:Lu Tryz.prog 96:=Y1 (hd:=by kernel_rfl)
theorem c43:IC Tryz.prog 62:=WJ (hd:=by kernel_rfl) (h1:=c42)
theorem c44:QH Tryz.prog 165:=Aar (hd:=by kernel_rfl)
theorem c45:Ps Tryz.prog 145:=Zn (hd:=by kernel_rfl) (h1:=c44)
theorem c46:No Tryz.prog 110:=WS (hd:=by kernel_rfl) (h1:=c43) (h2:=c45)
theorem c47:Pa Tryz.prog 72:=XA (hd:=by kernel_rfl) (h1:=c46) (h2:=c42)
theorem c48:QV Tryz.prog 73:=Zv (hd:=by kernel_rfl)
theorem c49:OK Tryz.prog 113:=AaQ (hd:=by kernel_rfl)
theorem c50:QR Tryz.prog 111:=YF (hd:=by kernel_rfl) (h1:=c49)
theorem c51:Re Tryz.prog 112:=ZC (hd:=by kernel_rfl) (h1:=c49)
theorem c52:MH Tryz.prog 95:=Xp (hd:=by kernel_rfl)
theorem c53:Hr T Tryz.prog 74:=Wp (hd:=by kernel_rfl) (h1:=c50) (h2:=c51) (h3:=c49) (h4:=c52)
theorem c54:OP T Tryz.prog 39:=Xc (hd:=by kernel_rfl) (h1:=c41) (h2:=c47) (h3:=c48) (h4:=c53)
theorem c55:NO T Tryz.prog 17:=Wz (hd:=by kernel_rfl) (h1:=c40) (h2:=c54)
theorem c56:QA Tryz.prog 40:=Aap (hd:=by kernel_rfl)
theorem c57:Mp Tryz.prog 41:=Ya (hd:=by kernel_rfl)
theorem c58:Mq Tryz.prog 19:=X5 (hd:=by kernel_rfl) (h1:=c56) (h2:=c57)
theorem c59:OH Tryz.prog 19:=V2 (f1:=40) (f2:=41) (hd:=by kernel_rfl)
theorem c60:Ek T Tryz.prog 50:=PM (hd:=by kernel_rfl) (h1:=c43)
theorem c61:Hq Tryz.prog 27:=Vo (hd:=by kernel_rfl)
theorem c62:Ol Tryz.prog 59:=ZG (hd:=by kernel_rfl)
theorem c63:Jg T Tryz.prog 58:=Yu (hd:=by kernel_rfl) (h1:=c62) (h2:=c52)
theorem c64:Go.Gk.Val.IK T Tryz.prog 86:=ZP (hd:=by kernel_rfl) (h1:=c60) (h2:=c63)
theorem c65:Sz T Tryz.prog 49:=ZB (hd:=by kernel_rfl) (h1:=c64)
theorem c66:Hu T Tryz.prog 24:=VF (hd:=by kernel_rfl) (h1:=c61) (h2:=c65)
theorem c67:KX T Tryz.prog 42:=Xh (hTm:=fun h hl=>hTm hl h) (hd:=by kernel_rfl) (h1:=c60) (h2:=c66) (h3:=c61)
theorem c68:∀F,UU T Tryz.prog 18 F:=WN (f:=18) (hT:=hTm) (hd:=by kernel_rfl) (h1:=c56) (h2:=c57) (h3:=c58) (h3e:=c59) (h5:=c67)
theorem c69:Hn T Tryz.prog 5:=UW (hT:=hTm) (hd:=by kernel_rfl) (h1:=c55) (h2:=c68) (h3:=c58) (h3e:=c59)
theorem c70:MU T Tryz.prog 21:=Xv (hd:=by kernel_rfl) (h1:=c33) (h2:=c25)
theorem c71:Mt Tryz.prog 146:=Kg (hd:=by kernel_rfl)
theorem c72:Rc Tryz.prog 115:=Zc (hd:=by kernel_rfl) (h1:=c71)
theorem c73:Mt Tryz.prog 116:=Jb (hd:=by kernel_rfl)
theorem c74:Ja Tryz.prog 81:=Wq (hd:=by kernel_rfl) (h1:=c72) (h2:=c73)
theorem c75:IB Tryz.prog 82:=WL (hd:=by kernel_rfl)
theorem c76:GB Tryz.prog 83:=ZT (hd:=by kernel_rfl) (h1:=c75)
theorem c77:H5 Tryz.prog 46:=Zl (hd:=by kernel_rfl) (h1:=c74) (h2:=c75) (h3:=c76)
theorem c78:Ih 1 A9 Tryz.prog 90:=Ub (hd:=by kernel_rfl)
theorem c79:Ih 6 Az Tryz.prog 85:=Qj (hd:=by kernel_rfl)
theorem c80:Pv Tryz.prog 84:=WQ (hd:=by kernel_rfl) (h1:=c74) (h2:=c78) (h3:=c79)
theorem c81:Qx Tryz.prog 47:=Aax (hd:=by kernel_rfl) (h1:=c80) (h2:=c75) (h3:=c79) (h4:=c76)
theorem c82:QI Tryz.prog 22:=Zo (hd:=by kernel_rfl) (h1:=c77) (h2:=c81)
theorem c83:TW T Tryz.prog 6:=Aav (hT:=hTm) (hd:=by kernel_rfl) (h1:=c33) (h2:=c70) (h3:=c82) (h4:=c36)
theorem c84:Ks T Tryz.prog 25:=Vm (hd:=by kernel_rfl) (h1:=c60)
theorem c85:Ou Tryz.prog 87:=Aas (hd:=by kernel_rfl)
theorem c86:Pf Tryz.prog 117:=Xj (hd:=by kernel_rfl)
theorem c87:GB Tryz.prog 88:=WO (hd:=by kernel_rfl) (h1:=c86)
theorem c88:Ph Tryz.prog 89:=XX (hd:=by kernel_rfl) (h1:=c43)
theorem c89:H5 Tryz.prog 51:=VK (hd:=by kernel_rfl) (h1:=c85) (h2:=c87) (h3:=c88)
theorem c90:R5 T Tryz.prog 42:=ZY (hTm:=fun h hl=>hTm hl h) (hd:=by kernel_rfl) (h1:=c60) (h2:=c66) (h3:=c61)
theorem c91:NW T Tryz.prog 52:=YS (hTm:=fun h hl=>hTm hl h) (hd:=by kernel_rfl) (h1:=c90) (h2:=c85) (h3:=c87)
theorem c92:O3 T Tryz.prog 26:=Xa (hTm:=fun h hl=>hTm hl h) (hd:=by kernel_rfl) (h1:=c89) (h2:=c91)
theorem c93:Sc T Tryz.prog 7:=YC (hTm:=fun h hl=>hTm hl h) (hd:=by kernel_rfl) (h1:=c66) (h2:=c84) (h3:=c92) (h4:=c61)
theorem c94:LB Tryz.prog 53:=U4 (hd:=by kernel_rfl) (h1:=c74) (h2:=c78) (h3:=c79) (h4:=c75) (h5:=c76)
theorem c95:O5 Tryz.prog 28:=Xx (hd:=by kernel_rfl) (h1:=c94) (h2:=c77) (h3:=c81)
theorem c96:QP T Tryz.prog 8:=YB (hd:=by kernel_rfl) (h1:=c70) (h2:=c95) (h3:=c36)
theorem c97:Pd Tryz.prog 54:=XR (hd:=by kernel_rfl) (h1:=c85) (h2:=c87)
theorem c98:NM T Tryz.prog 29:=Vb (hTm:=fun h hl=>hTm hl h) (hd:=by kernel_rfl) (h1:=c97) (h2:=c89) (h3:=c91)
theorem c99:Pt T Tryz.prog 9:=XP (hd:=by kernel_rfl) (h1:=c66) (h2:=c84) (h3:=c98)
theorem c100:MS Tryz.prog 147:=XI (ρ:=Tryz.laysSmall_ren) Tryz.laysSmall ⟨_,Tryz.func147,by kernel_rfl,by kernel_rfl⟩
theorem c101:Px Tryz.prog 144:=XK (ρ:=Tryz.laysLen_ren) Tryz.laysLen ⟨_,Tryz.func144,by kernel_rfl,by kernel_rfl⟩
theorem c102:OW Tryz.prog 166:=Xi (ρ:=Tryz.laysLog_ren) Tryz.laysLog ⟨_,Tryz.func166,by kernel_rfl,by kernel_rfl⟩
theorem c103:Pc Tryz.prog 167:=X6 (hd:=by kernel_rfl)
theorem c104:NU T Tryz.prog 148:=Zb (g3:=6) (hT:=fun d h=>hTtensV_G_internal_strconv_uint64pow10 h) (hd:=by kernel_rfl) (h1:=c101) (h2:=c102) (h4:=c103)
theorem c105:US Tryz.prog 149:=AaO (ρ:=Tryz.laysFmt_ren) Tryz.laysFmt ⟨_,Tryz.func149,by kernel_rfl,by kernel_rfl⟩
theorem c106:J1 T Tryz.prog 118:=YR (f4:=150) (hd:=by kernel_rfl) (h1:=c100) (h2:=c104) (h3:=c105)
theorem c107:J1 T Tryz.prog 91:=XJ (hd:=by kernel_rfl) (h1:=c106)
theorem c108:Jsn.Uq Tryz.prog 93:=Jsn.AaG (ρ:=Tryz.laysRep_ren) Tryz.laysRep builderX ⟨_,Tryz.func93,by kernel_rfl,by kernel_rfl⟩
theorem c109:Ss Tryz.prog 149:=Zh (ρ:=Tryz.laysFmt_ren) Tryz.laysFmt ⟨_,Tryz.func149,by kernel_rfl,by kernel_rfl⟩
theorem c110:QZ T Tryz.prog 155:=Y2 (f4:=150) (hd:=by kernel_rfl) (h1:=c100) (h2:=c104) (h3:=c109)
theorem c111:JL T Tryz.prog 124:=Xs (hd:=by kernel_rfl) (h1:=c110)
theorem c112:JL T Tryz.prog 94:=YV (hd:=by kernel_rfl) (h1:=c111)
theorem c113:MO T Tryz.prog 55:=Z6 (hd:=by kernel_rfl) (h1:=c30) (h2:=c29) (h3:=c107) (h4:=c108) (h5:=c112)
theorem c114:Nx T Tryz.prog 56:=VL (hd:=by kernel_rfl) (h1:=c25) (h2:=c5)
theorem c115:Mf Tryz.prog 196:=XY (hd:=by kernel_rfl)
theorem c116:Nl 69 Tryz.prog 57:=VX (TT:=69) (hd:=by kernel_rfl) (hm:=by kernel_rfl) (h1:=c115)
theorem c117:QS T 69 Tryz.prog 30:=YG (TT:=69) (hd:=by kernel_rfl) (h1:=c113) (h2:=c114) (h3:=c116) (hmt:=by kernel_rfl) (h4:=c115)
theorem c118:Nj T Tryz.prog 10:=Ve (TT:=69) (hd:=by kernel_rfl) (h1:=c33) (h2:=c117)
theorem c119:R8 Tryz.prog 60:=ZM (hd:=by kernel_rfl)
theorem c120:LJ Tryz.prog 61:=TZ (hd:=by kernel_rfl)
theorem c121:MO T Tryz.prog 31:=ZJ (hd:=by kernel_rfl) (h1:=c63) (h2:=c62) (h3:=c119) (h4:=c120)
theorem c122:Go.Gk.Jsn.IK Tryz.prog 63:=Z5 (hd:=by kernel_rfl) (h1:=c42)
theorem c123:NB Tryz.prog 32:=VR (T:=fun _=>True) (hT:=fun _=>trivial) (hd:=by kernel_rfl) (f1:=50) (h1:=PM (T:=fun _=>True) (f1:=62) (by kernel_rfl) c43) (h2:=c43) (h3:=c122)
theorem c124:O0 T Tryz.prog 11:=W4 (hd:=by kernel_rfl) (h1:=c121) (h2:=c123)
section
variable {H:Type}{enc:TypeId×Value→H}{W:World}
theorem rdSt:Rd enc Tryz.prog W 93 RSt:=
 Abu (ti:=3) (ts:=9) (tb:=4) ⟨_,Tryz.underlying93,rfl,rfl,rfl,rfl,rfl,rfl⟩ (by kernel_rfl) (by kernel_rfl) (by kernel_rfl) (by kernel_rfl) Tryz.underlying3 Tryz.underlying9 Tryz.underlying4
theorem u8x:U8Extra Tryz.prog Tryz.laysValid_ren:=⟨by kernel_rfl,by kernel_rfl,by kernel_rfl,by kernel_rfl,by kernel_rfl,by kernel_rfl,by kernel_rfl⟩
theorem tabs_of{laid:List (String×DataW Unit)}(h3:("unicode/utf8.first",Go.Pinned.utf8First)∈laid)(h4:("unicode/utf8.acceptRanges",Rows.laid_unicode_utf8_acceptRanges)∈laid)(h2:("thimble/num.tens",Rows.laid_thimble_num_tens)∈laid)(h5:("internal/strconv.uint64pow10",Rows.laid_internal_strconv_uint64pow10)∈laid)
  (hL:laidMet Tryz.prog laid W):T (hw W):=by
 refine⟨⟨Zr (ρ:=Tryz.laysValid_ren) Tryz.laysValid u8x ?_ ?_,?_⟩,?_⟩
 ·rw[←GO];exact Lib.laidMet.reads hL h3
 ·exact Lib.laidMet.reads hL h4
 ·rw[Rz]
  exact VZ (k:=.u64) (zs:=Uk) (by kernel_rfl) (by kernel_rfl) Tryz.underlying161 Tryz.underlying144 (by kernel_rfl) (by kernel_rfl) (Lib.laidMet.reads hL h2)
 ·rw[Rz]
  exact VZ (k:=.u64) (zs:=Uk) (by kernel_rfl) (by kernel_rfl) Tryz.underlying161 Tryz.underlying144 (by kernel_rfl) (by kernel_rfl) (Lib.laidMet.reads hL h5)
theorem part_le{d:DataW H}{l:List (DataW H)}(h:d∈l):Rows.uptoBulk d≤Rows.uptoBulkAll l:=by
 induction l with
 |nil=>cases h
 |cons x r ih=>
  simp only[Rows.uptoBulkAll]
  cases List.mem_cons.1 h with
  |inl e=>subst e;omega
  |inr e=>have:=ih e;omega
theorem text_le{l:List (DataW H)}(hk:Rows.uptoSmall H l=true){d:DataW H}(hd:d∈l){elems rest parts:List (DataW H)}{bytes:List UInt8}(e1:d=.slice elems rest)(e2:.agg parts∈elems)(e3:.lit (.string bytes)∈parts):bytes.length≤1048576:=by
 subst e1;have h1:Rows.uptoBulkAll l≤1048576:=of_decide_eq_true hk;have h2:=part_le hd;have h3:=part_le e2;have h4:=part_le e3;simp only[Rows.uptoBulk] at h2 h3 h4;omega
end
theorem own:ownKnob Tryz.prog.godebug=none:=by kernel_rfl
theorem laidOut:laidOutB Tryz.prog=true:=by kernel_rfl
set_option maxRecDepth 100000 in
theorem contract(H:Type)(enc:TypeId×Value→H)(W:World)(base:Nat)(args:Array Value)(ds gs:List (DataW H))(before:List MemPlace)
  (hval:∀(j:Nat) t v,Tryz.f3.params[j]?=some t→args[j]?=some v→Value.okWide Tryz.prog W .any base t v)
  (hW:DataW.Whole enc Tryz.prog Tryz.f3.params.toList Rows.topReadsSpec.vars false W args.toList ds gs before)
  (hwt:(DataW.weightsEach Tryz.prog (Tryz.f3.params.toList++Rows.topReadsSpec.plain.varTypes Tryz.prog) (ds++gs)).all (·≤reachBytes)=true) (hL:laidMet Tryz.prog Rows.topReadsRow.laid W) (hk:Rows.uptoSmall H (ds++gs)=true):
  Calls Tryz.prog 3 args W fun e W'=>∃v,e=.returned v∧Rows.topReadsSpec.post enc Tryz.prog Tryz.f3 false true false false W args v W':=by
 have hW':=hW
 obtain⟨p,q,hA0,hV,rfl,hfz,hnd⟩:=hW
 have hA:DataW.TrodAll enc Tryz.prog W 0 (fun _=>true) true Tryz.f3.params.toList args.toList ds p:=hA0
 rw[Tryz.params3] at hA hval hwt
 obtain⟨v0,vs0,d0,ds0,p0,q0,hargs,rfl,rfl,h0,r0⟩:=trodAll_cons hA
 obtain⟨v1,vs1,d1,ds1,p1,q1,rfl,rfl,rfl,h1,r1⟩:=trodAll_cons r0
 obtain⟨v2,vs2,d2,ds2,p2,q2,rfl,rfl,rfl,h2,r2⟩:=trodAll_cons r1
 obtain⟨rfl,rfl,rfl⟩:=trodAll_nil r2
 obtain rfl:args= #[v0,v1,v2]:=by cases args;simp_all
 obtain⟨rfl,rfl⟩:=trodVars_none hV
 obtain⟨s,rfl,hs⟩:=arg_str Tryz.underlying9 (hval 0 9 v0 rfl rfl) h0 (JF (j:=0) hwt rfl rfl)
 obtain⟨l,hl'⟩:=VB (sz:=6) (R:=RSt) Tryz.underlying22 (by kernel_rfl) (by omega) (of_decide_eq_true (by kernel_rfl)) rdSt (hval 1 22 v1 rfl rfl) h1 (JF (j:=1) hwt rfl rfl)
 obtain⟨u,rfl,hu⟩:=arg_str Tryz.underlying9 (hval 2 9 v2 rfl rfl) h2 (JF (j:=2) hwt rfl rfl)
 have ht:T (hw W):=tabs_of (.tail _ (.tail _ (.tail _ (.tail _ (.tail _ (.head _)))))) (.tail _ (.tail _ (.tail _ (.head _)))) (.tail _ (.tail _ (.tail _ (.tail _ (.head _))))) (.tail _ (.tail _ (.head _))) hL
 have hlx:∀x∈l,x.text.length≤1048576:=by
  intro x hx;obtain⟨elems,rest,parts,e1,e2,e3⟩:=VW (ts:=9) Tryz.underlying22 (by kernel_rfl) Tryz.underlying93 rfl Tryz.underlying9 (by kernel_rfl) h1 hl' x hx;exact text_le hk (by simp) e1 e2 e3
 exact UT laidOut (by kernel_rfl) hW' rfl rfl (by kernel_rfl) Tryz.underlying4 (((SY (f:=3) (f1:=4) (f2:=5) (f3:=6) (f4:=7) (f5:=8) (f6:=9) (f7:=10) (f8:=11) (hT:=hTm) (hd:=by kernel_rfl) (h1:=c39) (h2:=c69) (h3:=c83) (h4:=c93) (h5:=c96) (h6:=c99) (h7:=c118) (h8:=c124)) ht hl' hlx hs hu).mono fun e d' L' _ hr=>by cases e<;>first|exact hr.2|exact hr)
theorem reads(os:Os){H:Type}(enc:TypeId×Value→H):∃places,DataW.whole enc Tryz.prog ((World.laidAll Tryz.prog os Rows.topReadsUptoRow.laid).forCall (fun _ _=>0) ⟨#[], #[.string ⟨#[]⟩,nV,.string ⟨#[]⟩],[]⟩).memory Tryz.f3.params.toList Rows.topReadsSpec.vars false (#[.string ⟨#[]⟩,nV,.string ⟨#[]⟩]).toList 8=some ([.lit (.string []),.nil,.lit (.string [])],[],places):=
 ⟨[],by kernel_rfl⟩
set_option maxRecDepth 100000 in
theorem lifted(os:Os)(started:os.Started)(H:Type)(enc:TypeId×Value→H)(F:Stop.Interp):
  ReturnsInHanded {} Tryz.checked os 3 .any ((Rows.OpenSpec.upto Rows.topReadsSpec).preRow enc Tryz.prog Tryz.f3 Rows.topReadsUptoRow.domain false Rows.topReadsUptoRow.laid) (((Rows.OpenSpec.upto Rows.topReadsSpec).at F).post enc Tryz.prog Tryz.f3 false true false false):=by
 obtain⟨places,hx⟩:=reads os enc
 refine returnsInHanded_of_row (C:=Tryz.checked) (s:=Rows.OpenSpec.upto Rows.topReadsSpec) own started (by kernel_rfl) Tryz.func3
  (witness_row_at (enc:=enc) (C:=Tryz.checked) false (World.laidAll Tryz.prog os Rows.topReadsUptoRow.laid) #[.string ⟨#[]⟩,nV,.string ⟨#[]⟩] (World.laidAll_os _ _ _) (by kernel_rfl) (by kernel_rfl) (by kernel_rfl)
   (OpenSpec.preRow_of_cond 8 hx (by kernel_rfl) (fun k hk=>by cases hk;kernel_rfl) (by kernel_rfl) (laidMet_laidAll _ (by kernel_rfl) (by kernel_rfl)))) ?_
 intro W base args ds gs before hval hW _ hcond hwt hL _ _
 rw[MakeChecks.laidMetH_plain _ _ _ (by kernel_rfl)] at hL
 exact contract H enc W base args ds gs before hval hW hwt hL (hcond _ rfl)
theorem held:Rows.TopReadsUptoSaid:=
 OpenClaim.holds_of_cond 3 Tryz.f3 rfl rfl rfl rfl rfl rfl rfl ⟨rfl,rfl,rfl,rfl,rfl⟩ rfl rfl rfl rfl rfl (by kernel_rfl) Tryz.func3 (by kernel_rfl)
  (of_decide_eq_true (by kernel_rfl)) (by unfold Func.isWrapper;first|(rw[if_pos (by decide+kernel)];kernel_rfl)|(rw[if_neg (by decide+kernel)];exact⟨rfl,rfl⟩))
  (fun os started H enc _ F=>by rw[OpenClaim.pre_eq_preRow];exact lifted os started H enc F)
theorem proved:Rows.TopReadsUptoCardSaid:=
 Claim7.holds_tied_plain_at .later [] _ _ _ _ held (fun _ h=>by cases h) (by kernel_rfl) (fun _ h=>by cases h) topReadsUpto_row_tie rfl ⟨rfl,rfl⟩ (by kernel_rfl) rfl
  (fun f fn hf hfn=>by
   obtain rfl:f=3:=Option.some.inj ((show Tryz.prog.funcNamed "thimble/thimbletop.TopReads" =some 3 by kernel_rfl).symm.trans hf)|>.symm;obtain rfl:fn=Tryz.f3:=(Option.some.inj (Tryz.func3.symm.trans hfn)).symm;exact⟨by kernel_rfl,fun j t ht=>by
    rw[Tryz.params3] at ht;have hm:t∈[9,22,9]:=by simpa using Array.mem_of_getElem? ht
    have hall:([9,22,9].all fun u=> !Tryz.prog.wantsStandIn u)=true:=by kernel_rfl
    exact(show Tryz.prog.wantsStandIn t=false by simpa using List.all_eq_true.1 hall t hm)⟩)
  (by kernel_rfl)
end Go.Proofs.YtakjmidegfgjoaaGreatDoor.topReads
