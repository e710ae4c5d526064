/-
  The contracts of the functions that the laws of many ways reach, at this program.
-/
import Derived.Test.YtoepkkjejljfbaaGreatDoorRows
import Derived.Test.YtoepkkjejljfbaaGreatDoorGkLay
import Derived.Test.YtoepkkjejljfbaaGreatDoorPzH
import Derived.Lay
import Derived.LaidOnce
import Derived.MakeChecks
namespace Go.Proofs.YtoepkkjejljfbaaGreatDoor
open Go Go.Gk Go.Gk.Val Go.Proofs Go.RowKit Go.Shelf
abbrev T:Ag→Prop:=Tr 1 2 0 4
theorem hTm{d d':Ag}(hl:Le d d')(h:T d):T d':=h.mono hl
theorem hTtensV{d:Ag}(h:T d):DCs d 0 0 H2:=h.1.2
theorem hTtensV_G_internal_strconv_uint64pow10{d:Ag}(h:T d):DCs d 4 0 H2:=h.2
theorem hTutf{d:Ag}(h:T d):Jk (Tryz.laysValid_ren.g 3) (Tryz.laysValid_ren.g 4) d:=h.1.1
theorem c0:VI T Tryz.prog 94:=Zi (ρ:=Tryz.laysValid_ren) Tryz.laysValid ⟨_,Tryz.func94,by kernel_rfl,by kernel_rfl⟩ (fun d h=>hTutf h)
theorem c1:DP T Tryz.prog 65:=Wc (hd:=by kernel_rfl) (h1:=c0)
theorem c2:Tu Tryz.prog 66:=Zq (hd:=by kernel_rfl)
theorem c3:P5 Tryz.prog 67:=Yh (hd:=by kernel_rfl) (h1:=c2)
theorem c4:NX T Tryz.prog 34:=We (hd:=by kernel_rfl) (h1:=c1) (h2:=c2) (h3:=c3)
theorem c5:HB T Tryz.prog 13:=UE (hTm:=hTm) (hd:=by kernel_rfl) (h1:=c4)
theorem c6:Lw Tryz.prog 71:=VZ (hd:=by kernel_rfl)
theorem c7:K0 Tryz.prog 44:=Tp (f1:=72) (hd:=by kernel_rfl) (h1:=by kernel_rfl) (h2:=c6)
theorem c8:Qp Tryz.prog 73:=Xo (hd:=by kernel_rfl)
theorem c9:Q0 Tryz.prog 96:=XM (hd:=by kernel_rfl)
theorem c10:Nt Tryz.prog 86:=X4 (hd:=by kernel_rfl)
theorem c11:G7 T Tryz.prog 74:=Y4 (g2:=0) (hT:=fun d h=>hTtensV h) (hd:=by kernel_rfl) (h1:=c9) (h3:=c10)
theorem c12:Mw T Tryz.prog 75:=U9 (hd:=by kernel_rfl) (h1:=c1)
theorem c13:TQ T Tryz.prog 45:=YU (hd:=by kernel_rfl) (h1:=c8) (h2:=c11) (h3:=c1) (h4:=c12) (h5:=c6)
theorem c14:Fq T Tryz.prog 20:=VF (hd:=by kernel_rfl) (h1:=c7) (h2:=c13)
theorem c15:KC Tryz.prog 43:=VY (hd:=by kernel_rfl)
theorem c16:NO Tryz.prog 42:=Wn (hd:=by kernel_rfl) (h1:=c15)
theorem c17:Ru T Tryz.prog 19:=Yo (hd:=by kernel_rfl) (h1:=c14) (h2:=c16)
theorem c18:SM 7 Tryz.prog 81:=Mn (hd:=by kernel_rfl)
theorem c19:Qk 7 Tryz.prog 121:=LI (hd:=by kernel_rfl)
theorem c20:SK 7 Tryz.prog 106:=LX (hd:=by kernel_rfl) (h1:=c19)
theorem c21:Tg 7 Tryz.prog 82:=Mf (hd:=by kernel_rfl) (h1:=c20)
theorem c22:Mb 7 Tryz.prog 53:=Kd (hd:=by kernel_rfl) (h1:=c18) (h2:=c21)
theorem c23:Ms 7 Tryz.prog 25:=J9 (hd:=by kernel_rfl) (h1:=c22)
theorem c24:EX Tryz.prog 54:=RE (hd:=by kernel_rfl)
theorem c25:PO Tryz.prog 83:=Yr (hd:=by kernel_rfl)
theorem c26:Gg Tryz.prog 84:=MG (hd:=by kernel_rfl)
theorem c27:Om Tryz.prog 122:=Wu (ρ:=Tryz.laysSmall_ren) Tryz.laysSmall ⟨_,Tryz.func122,by kernel_rfl,by kernel_rfl⟩
theorem c28:N0 Tryz.prog 133:=Wz (ρ:=Tryz.laysLen_ren) Tryz.laysLen ⟨_,Tryz.func133,by kernel_rfl,by kernel_rfl⟩
theorem c29:Ow Tryz.prog 132:=V7 (ρ:=Tryz.laysLog_ren) Tryz.laysLog ⟨_,Tryz.func132,by kernel_rfl,by kernel_rfl⟩
theorem c30:Ou Tryz.prog 134:=VT (hd:=by kernel_rfl)
theorem c31:QL T Tryz.prog 123:=XW (g3:=4) (hT:=fun d h=>hTtensV_G_internal_strconv_uint64pow10 h) (hd:=by kernel_rfl) (h1:=c28) (h2:=c29) (h4:=c30)
theorem c32:TL Tryz.prog 124:=YL (ρ:=Tryz.laysFmt_ren) Tryz.laysFmt ⟨_,Tryz.func124,by kernel_rfl,by kernel_rfl⟩
theorem c33:IG T Tryz.prog 107:=Xw (f4:=125) (hd:=by kernel_rfl) (h1:=c27) (h2:=c31) (h3:=c32)
theorem c34:IG T Tryz.prog 85:=VC (hd:=by kernel_rfl) (h1:=c33)
theorem c35:E7 Tryz.prog 108:=XN (hd:=by kernel_rfl)
theorem c36:E7 Tryz.prog 87:=Xr (hd:=by kernel_rfl) (h1:=c35)
theorem c37:FO T Tryz.prog 56:=XE (hd:=by kernel_rfl) (h1:=c11) (h2:=c25) (h3:=c26) (h4:=c10) (h5:=c34) (h6:=c36)
theorem c38:Rs Tryz.prog 127:=Xp (hd:=by kernel_rfl)
theorem c39:Gg Tryz.prog 109:=TT (hd:=by kernel_rfl) (h1:=c38)
theorem c40:Fl Tryz.prog 128:=RR (hd:=by kernel_rfl)
theorem c41:Fl Tryz.prog 110:=Ww (hd:=by kernel_rfl) (h1:=c40)
theorem c42:EX Tryz.prog 111:=V1 (hd:=by kernel_rfl) (h1:=c24)
theorem c43:IW T Tryz.prog 88:=Rz (hd:=by kernel_rfl) (h1:=c39) (h2:=c37) (h3:=c36) (h4:=c41) (h5:=c42)
theorem c44:Mt T Tryz.prog 57:=X7 (hd:=by kernel_rfl) (h1:=c14) (h2:=c43)
theorem c45:NU T Tryz.prog 55:=VX (hd:=by kernel_rfl) (h1:=c37) (h2:=c44)
theorem c46:QK T Tryz.prog 27:=XT (hd:=by kernel_rfl) (h1:=c24) (h2:=c45)
theorem c47:N3 T Tryz.prog 26:=Uw (hd:=by kernel_rfl) (h1:=c46)
theorem c48:KY 7 Tryz.prog 28:=JE (hd:=by kernel_rfl)
theorem c49:Jl Tryz.prog 58:=Uj (hd:=by kernel_rfl)
theorem c50:Me Tryz.prog 59:=UL (hd:=by kernel_rfl)
theorem c51:Gi Tryz.prog 30:=V9 (hd:=by kernel_rfl) (h1:=c49) (h2:=c50)
theorem c52:MD Tryz.prog 29:=Um (hd:=by kernel_rfl) (h1:=c51)
theorem c53:Lv T Tryz.prog 46:=WB (hd:=by kernel_rfl) (h1:=c14) (h2:=c1)
theorem c54:K6 Tryz.prog 131:=Jy (hd:=by kernel_rfl)
theorem c55:PQ Tryz.prog 118:=Ys (hd:=by kernel_rfl) (h1:=c54)
theorem c56:K6 Tryz.prog 119:=HX (hd:=by kernel_rfl)
theorem c57:HS Tryz.prog 97:=Vd (hd:=by kernel_rfl) (h1:=c55) (h2:=c56)
theorem c58:Hg 1 A2 Tryz.prog 112:=TA (hd:=by kernel_rfl)
theorem c59:Hg 6 Aw Tryz.prog 101:=Ps (hd:=by kernel_rfl)
theorem c60:Hl Tryz.prog 98:=WA (hd:=by kernel_rfl)
theorem c61:FB Tryz.prog 99:=Yw (hd:=by kernel_rfl) (h1:=c60)
theorem c62:KT Tryz.prog 89:=SN (hd:=by kernel_rfl) (h1:=c57) (h2:=c58) (h3:=c59) (h4:=c60) (h5:=c61)
theorem c63:GR Tryz.prog 76:=X6 (hd:=by kernel_rfl) (h1:=c57) (h2:=c60) (h3:=c61)
theorem c64:Oo Tryz.prog 100:=VH (hd:=by kernel_rfl) (h1:=c57) (h2:=c58) (h3:=c59)
theorem c65:PJ Tryz.prog 77:=YZ (hd:=by kernel_rfl) (h1:=c64) (h2:=c60) (h3:=c59) (h4:=c61)
theorem c66:Of Tryz.prog 60:=WM (hd:=by kernel_rfl) (h1:=c62) (h2:=c63) (h3:=c65)
theorem c67:N7 A2 16 Tryz.prog 48:=Ue (hd:=by kernel_rfl)
theorem c68:Hm Tryz.prog 22:=WU (hd:=by kernel_rfl) (h1:=c67)
theorem c69:PZ T Tryz.prog 31:=Yg (hd:=by kernel_rfl) (h1:=c53) (h2:=c66) (h3:=c68)
theorem c70:Ln T Tryz.prog 10:=WX (hTm:=hTm) (hd:=by kernel_rfl) (h1:=c14) (h2:=c5) (h3:=c23) (h4:=c47) (h5:=c48) (h6:=c52) (h7:=c69) (h8:=c68)
theorem c71:PG T Tryz.prog 6:=Ts (hTm:=hTm) (hd:=by kernel_rfl) (h1:=c5) (h2:=c17) (h3:=c70)
theorem c72:Rc Tryz.prog 18:=Xx (hd:=by kernel_rfl)
theorem c73:JQ Tryz.prog 5:=U6 (hd:=by kernel_rfl) (h1:=c72)
theorem vty:VTy Tryz.prog 27 23 2 3 9 24 25:=
 ⟨⟨_,Tryz.underlying27,rfl,rfl,rfl,rfl,rfl⟩,⟨_,Tryz.underlying23,rfl,rfl⟩,by kernel_rfl,by kernel_rfl,by kernel_rfl,by kernel_rfl,by kernel_rfl,by kernel_rfl,by kernel_rfl,Tryz.underlying2,Tryz.underlying3,Tryz.underlying9,Tryz.underlying24,Tryz.underlying25,of_decide_eq_true (by kernel_rfl),of_decide_eq_true (by kernel_rfl)⟩
section
variable {H:Type}{enc:TypeId×Value→H}{W:World}
theorem rdVal:Rd enc Tryz.prog W 27 Aw:=rd_val vty
theorem rdSt:Rd enc Tryz.prog W 53 RSt:=
 Za (ti:=3) (ts:=9) (tb:=4) ⟨_,Tryz.underlying53,rfl,rfl,rfl,rfl,rfl,rfl⟩ (by kernel_rfl) (by kernel_rfl) (by kernel_rfl) (by kernel_rfl) Tryz.underlying3 Tryz.underlying9 Tryz.underlying4
theorem u8x:U8Extra Tryz.prog Tryz.laysValid_ren:=⟨by kernel_rfl,by kernel_rfl,by kernel_rfl,by kernel_rfl,by kernel_rfl,by kernel_rfl,by kernel_rfl⟩
theorem tabs_of{laid:List (String×DataW Unit)}(h3:("unicode/utf8.first",Go.Pinned.utf8First)∈laid)(h4:("unicode/utf8.acceptRanges",Rows.laid_unicode_utf8_acceptRanges)∈laid)(h2:("thimble/num.tens",Rows.laid_thimble_num_tens)∈laid)(h5:("internal/strconv.uint64pow10",Rows.laid_internal_strconv_uint64pow10)∈laid)
  (hL:laidMet Tryz.prog laid W):T (hw W):=by
 refine⟨⟨Ye (ρ:=Tryz.laysValid_ren) Tryz.laysValid u8x ?_ ?_,?_⟩,?_⟩
 ·rw[←I3];exact Lib.laidMet.reads hL h3
 ·exact Lib.laidMet.reads hL h4
 ·rw[Q2]
  exact UF (k:=.u64) (zs:=Tt) (by kernel_rfl) (by kernel_rfl) Tryz.underlying125 Tryz.underlying115 (by kernel_rfl) (by kernel_rfl) (Lib.laidMet.reads hL h2)
 ·rw[Q2]
  exact UF (k:=.u64) (zs:=Tt) (by kernel_rfl) (by kernel_rfl) Tryz.underlying125 Tryz.underlying115 (by kernel_rfl) (by kernel_rfl) (Lib.laidMet.reads hL h5)
end
theorem own:ownKnob Tryz.prog.godebug=none:=by kernel_rfl
theorem laidOut:laidOutB Tryz.prog=true:=by kernel_rfl
end Go.Proofs.YtoepkkjejljfbaaGreatDoor
