/-
  The contracts of the functions that the laws of many ways reach, at this program.
-/
import Derived.Test.YtoepkkjejljfbaaDoorRows
import Derived.Test.YtoepkkjejljfbaaDoorGkLay
import Derived.Test.YtoepkkjejljfbaaDoorPuF
import Derived.Lay
import Derived.LaidOnce
import Derived.MakeChecks
namespace Go.Proofs.YtoepkkjejljfbaaDoor
open Go Go.Gk Go.Gk.Val Go.Proofs Go.RowKit Go.Shelf
abbrev T:Ae→Prop:=Rw 1 2 0 4
theorem hTm{d d':Ae}(hl:Le d d')(h:T d):T d':=h.mono hl
theorem hTtensV{d:Ae}(h:T d):DCs d 0 0 Hj:=h.1.2
theorem hTtensV_G_internal_strconv_uint64pow10{d:Ae}(h:T d):DCs d 4 0 Hj:=h.2
theorem hTutf{d:Ae}(h:T d):Iv (Tryd.laysValid_ren.g 3) (Tryd.laysValid_ren.g 4) d:=h.1.1
theorem c0:Tk T Tryd.prog 76:=WV (ρ:=Tryd.laysValid_ren) Tryd.laysValid ⟨_,Tryd.func76,by kernel_rfl,by kernel_rfl⟩ (fun d h=>hTutf h)
theorem c1:EO T Tryd.prog 52:=TA (hd:=by kernel_rfl) (h1:=c0)
theorem c2:Q7 Tryd.prog 56:=WX (hd:=by kernel_rfl)
theorem c3:OX Tryd.prog 57:=Vg (hd:=by kernel_rfl) (h1:=c2)
theorem c4:ML T Tryd.prog 36:=Ur (hd:=by kernel_rfl) (h1:=c1) (h2:=c2) (h3:=c3)
theorem c5:GY T Tryd.prog 18:=R6 (hTm:=hTm) (hd:=by kernel_rfl) (h1:=c4)
theorem c6:J7 Tryd.prog 60:=Tp (hd:=by kernel_rfl)
theorem c7:Jb Tryd.prog 39:=Rq (f1:=61) (hd:=by kernel_rfl) (h1:=by kernel_rfl) (h2:=c6)
theorem c8:NW Tryd.prog 62:=VM (hd:=by kernel_rfl)
theorem c9:Py Tryd.prog 79:=VH (hd:=by kernel_rfl)
theorem c10:Lm Tryd.prog 71:=VE (hd:=by kernel_rfl)
theorem c11:Io T Tryd.prog 63:=We (g2:=0) (hT:=fun d h=>hTtensV h) (hd:=by kernel_rfl) (h1:=c9) (h3:=c10)
theorem c12:K2 T Tryd.prog 64:=Sk (hd:=by kernel_rfl) (h1:=c1)
theorem c13:QF T Tryd.prog 40:=Wy (hd:=by kernel_rfl) (h1:=c8) (h2:=c11) (h3:=c1) (h4:=c12) (h5:=c6)
theorem c14:Ez T Tryd.prog 21:=Tu (hd:=by kernel_rfl) (h1:=c7) (h2:=c13)
theorem c15:Jg Tryd.prog 23:=Th (hd:=by kernel_rfl)
theorem c16:MO Tryd.prog 22:=TV (hd:=by kernel_rfl) (h1:=c15)
theorem c17:H4 T Tryd.prog 10:=UW (hd:=by kernel_rfl) (h1:=c14) (h2:=c16)
theorem c18:QN 7 Tryd.prog 66:=KM (hd:=by kernel_rfl)
theorem c19:Pw 7 Tryd.prog 96:=Kc (hd:=by kernel_rfl)
theorem c20:QI 7 Tryd.prog 82:=Kp (hd:=by kernel_rfl) (h1:=c19)
theorem c21:QM 7 Tryd.prog 67:=KN (hd:=by kernel_rfl) (h1:=c20)
theorem c22:KY 7 Tryd.prog 43:=I3 (hd:=by kernel_rfl) (h1:=c18) (h2:=c21)
theorem c23:Ku 7 Tryd.prog 26:=I6 (hd:=by kernel_rfl) (h1:=c22)
theorem c24:D3 Tryd.prog 44:=P4 (hd:=by kernel_rfl)
theorem c25:O2 Tryd.prog 68:=Vk (hd:=by kernel_rfl)
theorem c26:HR Tryd.prog 69:=Ky (hd:=by kernel_rfl)
theorem c27:Mh Tryd.prog 97:=Us (ρ:=Tryd.laysSmall_ren) Tryd.laysSmall ⟨_,Tryd.func97,by kernel_rfl,by kernel_rfl⟩
theorem c28:Mc Tryd.prog 106:=Tw (ρ:=Tryd.laysLen_ren) Tryd.laysLen ⟨_,Tryd.func106,by kernel_rfl,by kernel_rfl⟩
theorem c29:MN Tryd.prog 105:=Tz (ρ:=Tryd.laysLog_ren) Tryd.laysLog ⟨_,Tryd.func105,by kernel_rfl,by kernel_rfl⟩
theorem c30:MD Tryd.prog 107:=S7 (hd:=by kernel_rfl)
theorem c31:On T Tryd.prog 98:=Vh (g3:=4) (hT:=fun d h=>hTtensV_G_internal_strconv_uint64pow10 h) (hd:=by kernel_rfl) (h1:=c28) (h2:=c29) (h4:=c30)
theorem c32:QJ Tryd.prog 99:=V4 (ρ:=Tryd.laysFmt_ren) Tryd.laysFmt ⟨_,Tryd.func99,by kernel_rfl,by kernel_rfl⟩
theorem c33:H5 T Tryd.prog 83:=VO (f4:=100) (hd:=by kernel_rfl) (h1:=c27) (h2:=c31) (h3:=c32)
theorem c34:H5 T Tryd.prog 70:=TY (hd:=by kernel_rfl) (h1:=c33)
theorem c35:FR Tryd.prog 84:=Va (hd:=by kernel_rfl)
theorem c36:FR Tryd.prog 72:=U0 (hd:=by kernel_rfl) (h1:=c35)
theorem c37:ID T Tryd.prog 46:=Vn (hd:=by kernel_rfl) (h1:=c11) (h2:=c25) (h3:=c26) (h4:=c10) (h5:=c34) (h6:=c36)
theorem c38:PC Tryd.prog 102:=U2 (hd:=by kernel_rfl)
theorem c39:HR Tryd.prog 85:=Sn (hd:=by kernel_rfl) (h1:=c38)
theorem c40:EC Tryd.prog 103:=PM (hd:=by kernel_rfl)
theorem c41:EC Tryd.prog 86:=TL (hd:=by kernel_rfl) (h1:=c40)
theorem c42:D3 Tryd.prog 87:=TP (hd:=by kernel_rfl) (h1:=c24)
theorem c43:Ox T Tryd.prog 73:=PW (hd:=by kernel_rfl) (h1:=c39) (h2:=c37) (h3:=c36) (h4:=c41) (h5:=c42)
theorem c44:K1 T Tryd.prog 47:=VU (hd:=by kernel_rfl) (h1:=c14) (h2:=c43)
theorem c45:Mn T Tryd.prog 45:=TB (hd:=by kernel_rfl) (h1:=c37) (h2:=c44)
theorem c46:PA T Tryd.prog 28:=U5 (hd:=by kernel_rfl) (h1:=c24) (h2:=c45)
theorem c47:My T Tryd.prog 27:=RG (hd:=by kernel_rfl) (h1:=c46)
theorem c48:Ja 7 Tryd.prog 29:=IV (hd:=by kernel_rfl)
theorem c49:IG Tryd.prog 48:=Si (hd:=by kernel_rfl)
theorem c50:KF Tryd.prog 49:=R5 (hd:=by kernel_rfl)
theorem c51:EX Tryd.prog 31:=TC (hd:=by kernel_rfl) (h1:=c49) (h2:=c50)
theorem c52:KL Tryd.prog 30:=RM (hd:=by kernel_rfl) (h1:=c51)
theorem c53:HN T Tryd.prog 34:=TR (hd:=by kernel_rfl) (h1:=c14) (h2:=c1)
theorem c54:JX Tryd.prog 92:=IW (hd:=by kernel_rfl)
theorem c55:N0 Tryd.prog 77:=VI (hd:=by kernel_rfl) (h1:=c54)
theorem c56:JX Tryd.prog 78:=G6 (hd:=by kernel_rfl)
theorem c57:GG Tryd.prog 53:=RC (hd:=by kernel_rfl) (h1:=c55) (h2:=c56)
theorem c58:Gj 1 Bk Tryd.prog 88:=QE (hd:=by kernel_rfl)
theorem c59:Gj 6 Aw Tryd.prog 89:=NK (hd:=by kernel_rfl)
theorem c60:Gr Tryd.prog 54:=Tf (hd:=by kernel_rfl)
theorem c61:Jf Tryd.prog 55:=Vr (hd:=by kernel_rfl) (h1:=c60)
theorem c62:I9 Tryd.prog 74:=Rf (hd:=by kernel_rfl) (h1:=c57) (h2:=c58) (h3:=c59) (h4:=c60) (h5:=c61)
theorem c63:Jc Tryd.prog 35:=Vj (hd:=by kernel_rfl) (h1:=c57) (h2:=c60) (h3:=c61)
theorem c64:Mr Tryd.prog 90:=TH (hd:=by kernel_rfl) (h1:=c57) (h2:=c58) (h3:=c59)
theorem c65:NS Tryd.prog 75:=Wh (hd:=by kernel_rfl) (h1:=c64) (h2:=c60) (h3:=c59) (h4:=c61)
theorem c66:MA Tryd.prog 50:=Tl (hd:=by kernel_rfl) (h1:=c62) (h2:=c63) (h3:=c65)
theorem c67:Mp Bk 16 Tryd.prog 51:=RL (hd:=by kernel_rfl)
theorem c68:Fy Tryd.prog 33:=Un (hd:=by kernel_rfl) (h1:=c67)
theorem c69:OZ T Tryd.prog 32:=Vp (hd:=by kernel_rfl) (h1:=c53) (h2:=c66) (h3:=c68)
theorem c70:JM T Tryd.prog 13:=S5 (hTm:=hTm) (hd:=by kernel_rfl) (h1:=c14) (h2:=c5) (h3:=c23) (h4:=c47) (h5:=c48) (h6:=c52) (h7:=c69) (h8:=c68)
theorem c71:IN T Tryd.prog 9:=Rk (hTm:=hTm) (hd:=by kernel_rfl) (h1:=c5) (h2:=c17) (h3:=c70)
theorem c72:Jz Tryd.prog 15:=UZ (hd:=by kernel_rfl)
theorem c73:GN Tryd.prog 8:=Sj (hd:=by kernel_rfl) (h1:=c72)
theorem vty:VTy Tryd.prog 27 23 2 3 9 24 25:=
 ⟨⟨_,Tryd.underlying27,rfl,rfl,rfl,rfl,rfl⟩,⟨_,Tryd.underlying23,rfl,rfl⟩,by kernel_rfl,by kernel_rfl,by kernel_rfl,by kernel_rfl,by kernel_rfl,by kernel_rfl,by kernel_rfl,Tryd.underlying2,Tryd.underlying3,Tryd.underlying9,Tryd.underlying24,Tryd.underlying25,of_decide_eq_true (by kernel_rfl),of_decide_eq_true (by kernel_rfl)⟩
section
variable {H:Type}{enc:TypeId×Value→H}{W:World}
theorem rdVal:Rd enc Tryd.prog W 27 Aw:=rd_val vty
theorem rdSt:Rd enc Tryd.prog W 39 RSt:=
 W4 (ti:=3) (ts:=9) (tb:=4) ⟨_,Tryd.underlying39,rfl,rfl,rfl,rfl,rfl,rfl⟩ (by kernel_rfl) (by kernel_rfl) (by kernel_rfl) (by kernel_rfl) Tryd.underlying3 Tryd.underlying9 Tryd.underlying4
theorem u8x:U8Extra Tryd.prog Tryd.laysValid_ren:=⟨by kernel_rfl,by kernel_rfl,by kernel_rfl,by kernel_rfl,by kernel_rfl,by kernel_rfl,by kernel_rfl⟩
theorem tabs_of{laid:List (String×DataW Unit)}(h3:("unicode/utf8.first",Go.Pinned.utf8First)∈laid)(h4:("unicode/utf8.acceptRanges",Rows.laid_unicode_utf8_acceptRanges)∈laid)(h2:("thimble/num.tens",Rows.laid_thimble_num_tens)∈laid)(h5:("internal/strconv.uint64pow10",Rows.laid_internal_strconv_uint64pow10)∈laid)
  (hL:laidMet Tryd.prog laid W):T (hw W):=by
 refine⟨⟨Vc (ρ:=Tryd.laysValid_ren) Tryd.laysValid u8x ?_ ?_,?_⟩,?_⟩
 ·rw[←KD];exact Lib.laidMet.reads hL h3
 ·exact Lib.laidMet.reads hL h4
 ·rw[O0]
  exact RN (k:=.u64) (zs:=Ri) (by kernel_rfl) (by kernel_rfl) Tryd.underlying107 Tryd.underlying41 (by kernel_rfl) (by kernel_rfl) (Lib.laidMet.reads hL h2)
 ·rw[O0]
  exact RN (k:=.u64) (zs:=Ri) (by kernel_rfl) (by kernel_rfl) Tryd.underlying107 Tryd.underlying41 (by kernel_rfl) (by kernel_rfl) (Lib.laidMet.reads hL h5)
end
theorem own:ownKnob Tryd.prog.godebug=none:=by kernel_rfl
theorem laidOut:laidOutB Tryd.prog=true:=by kernel_rfl
end Go.Proofs.YtoepkkjejljfbaaDoor
