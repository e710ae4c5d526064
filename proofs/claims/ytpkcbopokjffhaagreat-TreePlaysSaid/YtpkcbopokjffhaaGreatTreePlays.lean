/-
  'thimblelaw22.TreePlays' returns true for every number and every row of calls, and leaves them as they are: no condition.
-/
import Derived.Test.YtpkcbopokjffhaaGreatRows
import Derived.Test.YtpkcbopokjffhaaGreatPkH
namespace Go.Proofs.YtpkcbopokjffhaaGreat.treePlays
open Go Go.Gk Go.Gk.Dev Go.Gk.Cch Go.Gk.Pgr Go.Gk.Chn Go.Gk.Tre Go.Gk.Node Go.ChangeShapes Go.WideShapes Go.ChangeAt Go.RowKit
theorem h_device_New : MO Tryz.prog 60 := Zp (f := 60) (hd := by kernel_rfl)
theorem h_thimbleref15_New : UW Tryz.prog 61 := AaR (f := 61) (hd := by kernel_rfl)
theorem h_device_Device_Size : Hu Tryz.prog 93 := Xt (f := 93) (hd := by kernel_rfl)
theorem h_cache_New : Jw Tryz.prog 62 := Z3 (f := 62) (f1 := 93) (hd := by kernel_rfl) (h1 := h_device_Device_Size)
theorem h_thimbleref18_New : Ud Tryz.prog 63 := AaJ (f := 63) (hd := by kernel_rfl)
theorem h_cache_Cache_none : Ho Tryz.prog 85 := Xe (f := 85) (hd := by kernel_rfl)
theorem h_cache_Cache_Held : IP Tryz.prog 94 := Yo (f := 94) (f1 := 85) (hd := by kernel_rfl) (h1 := h_cache_Cache_none)
theorem h_pager_Pager_kind : IM Tryz.prog 95 := YZ (f := 95) (hd := by kernel_rfl)
theorem h_pager_New : R3 Tryz.prog 64 := Zg (f := 64) (f1 := 93) (f2 := 94) (f3 := 95) (hd := by kernel_rfl) (h1 := h_device_Device_Size) (h2 := h_cache_Cache_Held) (h3 := h_pager_Pager_kind)
theorem h_thimbleref16_Region : Ui Tryz.prog 96 := AaQ (f := 96) (hd := by kernel_rfl)
theorem h_thimbleref19_New : UT Tryz.prog 65 := Aag (f := 65) (f1 := 96) (f2 := 97) (hd := by kernel_rfl) (h1 := h_thimbleref16_Region)
theorem h_thimblelaw21_Made : Nh Tryz.prog 32 := VF (f := 32) (f1 := 60) (f2 := 61) (f3 := 62) (f4 := 63) (f5 := 64) (f6 := 65) (hd := by kernel_rfl) (h1 := h_device_New) (h2 := h_thimbleref15_New) (h3 := h_cache_New) (h4 := h_thimbleref18_New) (h5 := h_pager_New) (h6 := h_thimbleref19_New)
theorem h_pager_Pager_none : EO Tryz.prog 38 := XB (f := 38) (hd := by kernel_rfl)
theorem h_slices_Clone_int_int : DX Be 8 Tryz.prog 53 := Qg (f := 53) (hd := by kernel_rfl)
theorem h_maps_Clone_map_int_byte_int_byte : Hj Tryz.prog 54 := Ss (f := 54) (t1 := 68) (hd := by kernel_rfl)
theorem h_pager_Pager_Mark : K4 Tryz.prog 26 := Zj (f := 26) (f1 := 38) (f2 := 53) (f3 := 54) (hd := by kernel_rfl) (h1 := h_pager_Pager_none) (h2 := h_slices_Clone_int_int) (h3 := h_maps_Clone_map_int_byte_int_byte)
theorem h_tree_New : QU Tryz.prog 30 := Zk (f := 30) (f1 := 26) (hd := by kernel_rfl) (h1 := h_pager_Pager_Mark)
theorem h_thimblelaw22_Planted : H7 Tryz.prog 10 := UZ (f := 10) (f1 := 32) (f2 := 30) (hd := by kernel_rfl) (h1 := h_thimblelaw21_Made) (h2 := h_tree_New)
theorem h_thimblelaw22_Short : Oz Tryz.prog 19 := Yx (f := 19) (hd := by kernel_rfl)
theorem h_thimblelaw22_wrong : MV Tryz.prog 33 := Wi (f := 33) (hd := by kernel_rfl)
theorem h_tree_Tree_none : HD Tryz.prog 37 := WW (f := 37) (hd := by kernel_rfl)
theorem h_tree_Tree_Height : Iq Tryz.prog 15 := Uc (f := 15) (f1 := 37) (hd := by kernel_rfl) (h1 := h_tree_Tree_none)
theorem h_chain_Pages : Fw Tryz.prog 22 := Xs (f := 22) (hd := by kernel_rfl)
theorem h_pager_Pager_Free : N3 Tryz.prog 17 := ZM (f := 17) (f1 := 38) (hd := by kernel_rfl) (h1 := h_pager_Pager_none)
theorem h_tree_Tree_fits : K0 Tryz.prog 39 := ZU (f := 39) (f1 := 37) (hd := by kernel_rfl) (h1 := h_tree_Tree_none)
theorem h_pager_Pager_Drop : Gx Tryz.prog 72 := Z4 (f := 72) (f1 := 38) (f2 := 95) (hd := by kernel_rfl) (h1 := h_pager_Pager_none) (h2 := h_pager_Pager_kind)
theorem h_chain_taken_1 : QY Tryz.prog 125 := Zb (f := 125) (f3 := 72) (hd := by kernel_rfl) (h := h_pager_Pager_Drop)
theorem h_slices_Index_int_int : OS Tryz.prog 101 := Yf (f := 101) (hd := by kernel_rfl)
theorem h_pager_Pager_Take : Go.Gk.Pgr.FM Tryz.prog 71 := O0 (f := 71) (f1 := 38) (f2 := 101) (hd := by kernel_rfl) (h1 := h_pager_Pager_none) (h2 := h_slices_Index_int_int)
theorem h_chain_taken : OT Tryz.prog 98 := X3 (f := 98) (f1 := 125) (f2 := 71) (hd := by kernel_rfl) (h0 := h_chain_taken_1) (h1 := h_pager_Pager_Take)
theorem h_slices_Clone_byte_byte : DX AM 1 Tryz.prog 75 := NY (f := 75) (hd := by kernel_rfl)
theorem h_pager_Pager_Put : NA Tryz.prog 70 := AaB (f := 70) (f1 := 38) (f2 := 95) (f3 := 75) (hd := by kernel_rfl) (h1 := h_pager_Pager_none) (h2 := h_pager_Pager_kind) (h3 := h_slices_Clone_byte_byte)
theorem h_chain_Put_cputb_ok : LY Tryz.prog 68 := XP (f := 68) (f1 := 22) (f2 := 98) (f3 := 70) (hd := by kernel_rfl) (h1 := h_chain_Pages) (h2 := h_chain_taken) (h3 := h_pager_Pager_Put)
theorem h_tree_Tree_cell_tcellb_ok : JJ Tryz.prog 42 := Vu (f := 42) (f1 := 68) (hd := by kernel_rfl) (h1 := h_chain_Put_cputb_ok)
theorem h_bytes_Compare : H9 Tryz.prog 79 := U5 (f := 79) (hd := by kernel_rfl)
theorem h_slices_IndexFunc_byte_byte : E6 Tryz.prog 157 := J2 (f := 157) (hd := by kernel_rfl)
theorem h_slices_ContainsFunc_byte_byte : Ec Tryz.prog 145 := ID (f := 145) (f1 := 157) (hd := by kernel_rfl) (h1 := h_slices_IndexFunc_byte_byte)
theorem h_slices_IndexFunc_int_int : E6 Tryz.prog 158 := Mc (f := 158) (hd := by kernel_rfl)
theorem h_slices_ContainsFunc_int_int : Ec Tryz.prog 147 := Jl (f := 147) (f1 := 158) (hd := by kernel_rfl) (h1 := h_slices_IndexFunc_int_int)
theorem h_node_sound : LX Tryz.prog 126 := XW (f := 126) (f1 := 79) (f2 := 145) (f3 := 146) (f4 := 147) (f5 := 148) (hd := by kernel_rfl) (h1 := h_bytes_Compare) (h2 := h_slices_ContainsFunc_byte_byte) (h3 := by kernel_rfl) (h4 := h_slices_ContainsFunc_int_int) (h5 := by kernel_rfl)
theorem h_node_Node_cell : NK Tryz.prog 128 := Zi (f := 128) (hd := by kernel_rfl)
theorem h_node_Size : Ll Tryz.prog 105 := Y4 (f := 105) (fc := 128) (hd := by kernel_rfl) (hc := h_node_Node_cell)
theorem h_node_Right : I6 Tryz.prog 99 := Nl (f := 99) (f1 := 126) (f2 := 105) (hd := by kernel_rfl) (h1 := h_node_sound) (h2 := h_node_Size)
theorem h_node_page : NS Tryz.prog 100 := ZF (f := 100) (hd := by kernel_rfl)
theorem h_node_Bytes : LA Tryz.prog 69 := Yd (f := 69) (f1 := 99) (f2 := 100) (hd := by kernel_rfl) (h1 := h_node_Right) (h2 := h_node_page)
theorem h_tree_Tree_put : HB Tryz.prog 43 := XG (f := 43) (f1 := 69) (f2 := 70) (f3 := 71) (f4 := 72) (hd := by kernel_rfl) (h1 := h_node_Bytes) (h2 := h_pager_Pager_Put) (h3 := h_pager_Pager_Take) (h4 := h_pager_Pager_Drop)
theorem h_cache_Cache_find : I9 Tryz.prog 86 := XE (f := 86) (hd := by kernel_rfl)
theorem h_cache_Cache_pinned : Kt Tryz.prog 163 := Uq (f := 163) (hd := by kernel_rfl)
theorem h_cache_Cache_sweep : MF Tryz.prog 160 := Ww (f := 160) (f1 := 163) (hd := by kernel_rfl) (h1 := h_cache_Cache_pinned)
theorem h_cache_Cache_room : Pe Tryz.prog 151 := Xr (f := 151) (f1 := 160) (hd := by kernel_rfl) (h1 := h_cache_Cache_sweep)
theorem h_device_Device_ready : HV Tryz.prog 83 := WE (f := 83) (f1 := 93) (hd := by kernel_rfl) (h1 := h_device_Device_Size)
theorem h_device_Device_newest_iter_ok : QS Tryz.prog 161 := Z0 (f := 161) (f1 := 164) (hd := by kernel_rfl) (h := by kernel_rfl)
theorem h_device_Device_Read : OE Tryz.prog 152 := XY (f := 152) (f1 := 83) (f2 := 161) (hd := by kernel_rfl) (h1 := h_device_Device_ready) (h2 := h_device_Device_newest_iter_ok)
theorem h_cache_Cache_Get : Kr Tryz.prog 133 := Y9 (f := 133) (f1 := 85) (f2 := 93) (f3 := 86) (f4 := 151) (f5 := 152) (hd := by kernel_rfl) (h1 := h_cache_Cache_none) (h2 := h_device_Device_Size) (h3 := h_cache_Cache_find) (h4 := h_cache_Cache_room) (h5 := h_device_Device_Read)
theorem h_cache_Cache_Leave : HU Tryz.prog 134 := VJ (f := 134) (f1 := 85) (f2 := 86) (hd := by kernel_rfl) (h1 := h_cache_Cache_none) (h2 := h_cache_Cache_find)
theorem h_pager_Pager_Get : Fu Tryz.prog 108 := Zc (f := 108) (f1 := 38) (f2 := 95) (f3 := 75) (f4 := 133) (f5 := 134) (hd := by kernel_rfl) (h1 := h_pager_Pager_none) (h2 := h_pager_Pager_kind) (h3 := h_slices_Clone_byte_byte) (h4 := h_cache_Cache_Get) (h5 := h_cache_Cache_Leave)
theorem h_node_take : Go.Gk.Node.FM Tryz.prog 162 := O0 (f := 162) (f1 := 75) (hd := by kernel_rfl) (h1 := h_slices_Clone_byte_byte)
theorem h_node_kid : Ue Tryz.prog 153 := AaL (f := 153) (f1 := 162) (hd := by kernel_rfl) (h1 := h_node_take)
theorem h_node_piece : OV Tryz.prog 154 := Ym (f := 154) (f1 := 162) (hd := by kernel_rfl) (h1 := h_node_take)
theorem h_node_parse : OC Tryz.prog 135 := XZ (f := 135) (f1 := 153) (f2 := 154) (hd := by kernel_rfl) (h1 := h_node_kid) (h2 := h_node_piece)
theorem h_bytes_Equal : LH Tryz.prog 80 := Yl (f := 80) (hd := by kernel_rfl)
theorem h_node_Read : QG Tryz.prog 109 := Zr (f := 109) (f1 := 135) (f2 := 99) (f3 := 100) (f4 := 80) (hd := by kernel_rfl) (h1 := h_node_parse) (h2 := h_node_Right) (h3 := h_node_page) (h4 := h_bytes_Equal)
theorem h_tree_Tree_read : IQ Tryz.prog 78 := Xb (f := 78) (f1 := 108) (f2 := 109) (hd := by kernel_rfl) (h1 := h_pager_Pager_Get) (h2 := h_node_Read)
theorem h_tree_Tree_level : HY Tryz.prog 47 := Vj (f := 47) (f1 := 78) (hd := by kernel_rfl) (h1 := h_tree_Tree_read)
theorem h_node_Find : I5 Tryz.prog 48 findD := ZJ (f := 48) (f1 := 79) (f2 := 80) (hd := by kernel_rfl) (h1 := h_bytes_Compare) (h2 := h_bytes_Equal)
theorem h_tree_far : Qs Tryz.prog 81 := AaP (f := 81) (hd := by kernel_rfl)
theorem h_chain_pages_1_p1_ok : XA Tryz.prog 155 := Abf (f := 155) (f2 := 22) (f3 := 108) (hd := by kernel_rfl) (h1 := h_chain_Pages) (h2 := h_pager_Pager_Get)
theorem h_chain_pages_cpages_ok : Np Tryz.prog 136 := VB (f := 136) (f1 := 155) (hd := by kernel_rfl) (h := h_chain_pages_1_p1_ok)
theorem h_chain_read : Ly Tryz.prog 111 := XJ (f := 111) (f1 := 136) (f2 := 22) (hd := by kernel_rfl) (h1 := h_chain_pages_cpages_ok) (h2 := h_chain_Pages)
theorem h_chain_Drop : LK Tryz.prog 102 := Xl (f := 102) (f1 := 111) (f2 := 72) (hd := by kernel_rfl) (h1 := h_chain_read) (h2 := h_pager_Pager_Drop)
theorem h_tree_Tree_lose : LB Tryz.prog 73 := WY (f := 73) (f1 := 81) (f2 := 102) (hd := by kernel_rfl) (h1 := h_tree_far) (h2 := h_chain_Drop)
theorem h_slices_Insert_byte_byte : Jk RBs Tryz.prog 74 := Qe (f := 74) (f1 := 104) (hd := by kernel_rfl)
theorem h_node_Split_1 : Nt Tryz.prog 129 := VH (f := 129) (f1 := 128) (hd := by kernel_rfl) (h1 := h_node_Node_cell)
theorem h_node_own : Qv Tryz.prog 130 := Aae (f := 130) (f1 := 75) (hd := by kernel_rfl) (h1 := h_slices_Clone_byte_byte)
theorem h_node_Split : Pb Tryz.prog 106 := Yw (f := 106) (f1 := 126) (f2 := 129) (f3 := 130) (f4 := 75) (f5 := 53) (hd := by kernel_rfl) (h1 := h_node_sound) (h2 := h_node_Split_1) (h3 := h_node_own) (h4 := h_slices_Clone_byte_byte) (h5 := h_slices_Clone_int_int)
theorem h_tree_Tree_save : Hq Tryz.prog 76 := Xz (f := 76) (f1 := 99) (f2 := 43) (f3 := 105) (f4 := 106) (hd := by kernel_rfl) (h1 := h_node_Right) (h2 := h_tree_Tree_put) (h3 := h_node_Size) (h4 := h_node_Split)
theorem h_slices_Insert_int_int : Jk Be Tryz.prog 107 := SK (f := 107) (f1 := 132) (hd := by kernel_rfl)
theorem h_tree_Tree_renew : JN Tryz.prog 77 := WR (f := 77) (f1 := 105) (f2 := 74) (f3 := 107) (f4 := 76) (hd := by kernel_rfl) (h1 := h_node_Size) (h2 := h_slices_Insert_byte_byte) (h3 := h_slices_Insert_int_int) (h4 := h_tree_Tree_save)
theorem h_tree_Tree_insert : NI Tryz.prog 44 := Zu (f := 44) (f1 := 47) (f2 := 48) (f3 := 73) (f4 := 75) (f5 := 74) (f6 := 76) (f8 := 77) (hd := by kernel_rfl) (h1 := h_tree_Tree_level) (h2 := h_node_Find) (h3 := h_tree_Tree_lose) (h4 := h_slices_Clone_byte_byte) (h5 := h_slices_Insert_byte_byte) (h6 := h_tree_Tree_save) (h8 := h_tree_Tree_renew)
theorem h_tree_truth : OJ Tryz.prog 45 := W3 (f := 45) (hd := by kernel_rfl)
theorem h_tree_Tree_grow : IK Tryz.prog 46 := W4 (f := 46) (f1 := 43) (hd := by kernel_rfl) (h1 := h_tree_Tree_put)
theorem h_tree_Tree_Put_1_tput1b_ok : MT Tryz.prog 41 := WH (f := 41) (f1 := 42) (f2 := 43) (f3 := 44) (f4 := 45) (f5 := 46) (hd := by kernel_rfl) (h1 := h_tree_Tree_cell_tcellb_ok) (h2 := h_tree_Tree_put) (h3 := h_tree_Tree_insert) (h4 := h_tree_truth) (h5 := h_tree_Tree_grow)
theorem h_pager_Pager_Back : K6 Tryz.prog 28 := ZT (f := 28) (f1 := 38) (f2 := 53) (f3 := 54) (hd := by kernel_rfl) (h1 := h_pager_Pager_none) (h2 := h_slices_Clone_int_int) (h3 := h_maps_Clone_map_int_byte_int_byte)
theorem h_tree_Tree_change_1 : Q6 Tryz.prog 67 := Z1 (f := 67) (f3 := 28) (hd := by kernel_rfl) (h := h_pager_Pager_Back)
theorem h_tree_Tree_change : Is Tryz.prog 40 := TZ (f := 40) (f1 := 26) (f2 := 67) (hd := by kernel_rfl) (h1 := h_pager_Pager_Mark) (h2 := h_tree_Tree_change_1)
theorem h_tree_Tree_Put_tputb_ok : Ga Tryz.prog 18 := XN (f := 18) (f1 := 39) (f2 := 41) (f3 := 40) (hd := by kernel_rfl) (h1 := h_tree_Tree_fits) (h2 := h_tree_Tree_Put_1_tput1b_ok) (h3 := h_tree_Tree_change)
theorem h_thimbleref22_find : IX Tryz.prog 66 := QT (f := 66) (hd := by kernel_rfl)
theorem h_thimbleref22_Del : LU Tryz.prog 35 := Ye (f := 35) (f1 := 66) (hd := by kernel_rfl) (h1 := h_thimbleref22_find)
theorem h_thimbleref22_Put : Ph Tryz.prog 34 := Yg (f := 34) (f1 := 35) (f2 := 66) (hd := by kernel_rfl) (h1 := h_thimbleref22_Del) (h2 := h_thimbleref22_find)
theorem h_slices_Delete_byte_byte : Jn RBs Tryz.prog 88 := Qh (f := 88) (hd := by kernel_rfl)
theorem h_node_joined_byte : GM RBs Tryz.prog 137 := SA (f := 137) (hd := by kernel_rfl)
theorem h_node_joined_int : GM Be Tryz.prog 138 := UJ (f := 138) (hd := by kernel_rfl)
theorem h_node_Join : Q9 Tryz.prog 112 := Y2 (f := 112) (f1 := 137) (f2 := 130) (f3 := 138) (hd := by kernel_rfl) (h1 := h_node_joined_byte) (h2 := h_node_own) (h3 := h_node_joined_int)
theorem h_slices_Delete_int_int : Jn Be Tryz.prog 113 := Sy (f := 113) (hd := by kernel_rfl)
theorem h_tree_Tree_mend : OR Tryz.prog 89 := Xv (f := 89) (f1 := 78) (f2 := 112) (f3 := 76) (f4 := 72) (f5 := 88) (f6 := 113) (hd := by kernel_rfl) (h1 := h_tree_Tree_read) (h2 := h_node_Join) (h3 := h_tree_Tree_save) (h4 := h_pager_Pager_Drop) (h5 := h_slices_Delete_byte_byte) (h6 := h_slices_Delete_int_int)
theorem h_tree_Tree_remove : RD Tryz.prog 56 := Zs (f := 56) (f1 := 47) (f2 := 48) (f3 := 73) (f4 := 88) (f5 := 76) (f7 := 89) (f8 := 77) (hd := by kernel_rfl) (h1 := h_tree_Tree_level) (h2 := h_node_Find) (h3 := h_tree_Tree_lose) (h4 := h_slices_Delete_byte_byte) (h5 := h_tree_Tree_save) (h7 := h_tree_Tree_mend) (h8 := h_tree_Tree_renew)
theorem h_tree_Tree_shrink : KY Tryz.prog 57 := UO (f := 57) (f1 := 78) (f2 := 72) (hd := by kernel_rfl) (h1 := h_tree_Tree_read) (h2 := h_pager_Pager_Drop)
theorem h_tree_Tree_Del_1 : O5 Tryz.prog 55 := Xh (f := 55) (f1 := 56) (f2 := 46) (f3 := 57) (hd := by kernel_rfl) (h1 := h_tree_Tree_remove) (h2 := h_tree_Tree_grow) (h3 := h_tree_Tree_shrink)
theorem h_tree_Tree_Del : NU Tryz.prog 27 := Zf (f := 27) (f1 := 39) (f2 := 55) (f3 := 40) (hd := by kernel_rfl) (h1 := h_tree_Tree_fits) (h2 := h_tree_Tree_Del_1) (h3 := h_tree_Tree_change)
theorem h_device_Device_burn : Lw Tryz.prog 84 := Xm (f := 84) (hd := by kernel_rfl)
theorem h_device_Device_Write : MZ Tryz.prog 50 := Wg (f := 50) (f1 := 83) (f2 := 84) (hd := by kernel_rfl) (h1 := h_device_Device_ready) (h2 := h_device_Device_burn)
theorem h_device_Device_Sync : Pd Tryz.prog 51 := WV (f := 51) (f1 := 83) (f2 := 84) (hd := by kernel_rfl) (h1 := h_device_Device_ready) (h2 := h_device_Device_burn)
theorem h_pager_Pager_Flush : O7 Tryz.prog 23 := W5 (f := 23) (f1 := 38) (f2 := 50) (f3 := 51) (hd := by kernel_rfl) (h1 := h_pager_Pager_none) (h2 := h_device_Device_Write) (h3 := h_device_Device_Sync)
theorem h_cache_Cache_Forget : GV Tryz.prog 52 := Ut (f := 52) (f1 := 85) (f2 := 86) (hd := by kernel_rfl) (h1 := h_cache_Cache_none) (h2 := h_cache_Cache_find)
theorem h_pager_Pager_Done : RE Tryz.prog 24 := ZW (f := 24) (f1 := 38) (f2 := 52) (hd := by kernel_rfl) (h1 := h_pager_Pager_none) (h2 := h_cache_Cache_Forget)
theorem h_chain_Get : OD Tryz.prog 82 := Xa (f := 82) (f1 := 111) (hd := by kernel_rfl) (h1 := h_chain_read)
theorem h_tree_Tree_value : Ji Tryz.prog 49 := Wm (f := 49) (f1 := 75) (f2 := 81) (f3 := 82) (hd := by kernel_rfl) (h1 := h_slices_Clone_byte_byte) (h2 := h_tree_far) (h3 := h_chain_Get)
theorem h_tree_Tree_Get : I3 Tryz.prog 20 := ZV (f := 20) (f1 := 39) (f2 := 47) (f3 := 48) (f4 := 49) (hd := by kernel_rfl) (h1 := h_tree_Tree_fits) (h2 := h_tree_Tree_level) (h3 := h_node_Find) (h4 := h_tree_Tree_value)
theorem h_thimbleref22_Get : Pn Tryz.prog 36 := Yu (f := 36) (f1 := 66) (hd := by kernel_rfl) (h1 := h_thimbleref22_find)
theorem h_tree_Tree_Count : HR Tryz.prog 14 := Wj (f := 14) (f1 := 37) (hd := by kernel_rfl) (h1 := h_tree_Tree_none)
theorem h_thimblelaw22_Grown : OM Tryz.prog 11 := XC (f := 11) (f1 := 19) (f2 := 33) (f3 := 15) (f4 := 22) (f5 := 17) (f6 := 18) (f7 := 34) (f8 := 27) (f9 := 35) (f10 := 23) (f11 := 24) (f12 := 20) (f13 := 36) (f14 := 14) (hd := by kernel_rfl) (h1 := h_thimblelaw22_Short) (h2 := h_thimblelaw22_wrong) (h3 := h_tree_Tree_Height) (h4 := h_chain_Pages) (h5 := h_pager_Pager_Free) (h6 := h_tree_Tree_Put_tputb_ok) (h7 := h_thimbleref22_Put) (h8 := h_tree_Tree_Del) (h9 := h_thimbleref22_Del) (h10 := h_pager_Pager_Flush) (h11 := h_pager_Pager_Done) (h12 := h_tree_Tree_Get) (h13 := h_thimbleref22_Get) (h14 := h_tree_Tree_Count)
theorem h_thimblelaw22_Has : R6 Tryz.prog 12 := ZA (f := 12) (f1 := 20) (f2 := 14) (hd := by kernel_rfl) (h1 := h_tree_Tree_Get) (h2 := h_tree_Tree_Count)
theorem h_tree_Tree_Root : OY Tryz.prog 16 := Yt (f := 16) (f1 := 37) (hd := by kernel_rfl) (h1 := h_tree_Tree_none)
theorem h_thimblelaw22_works : Xp Tryz.prog 13 := UN (f := 13) (f1 := 10) (f2 := 18) (f3 := 15) (f4 := 14) (f5 := 17) (f6 := 20) (f7 := 27) (f8 := 16) (hd := by kernel_rfl) (h1 := h_thimblelaw22_Planted) (h2 := h_tree_Tree_Put_tputb_ok) (h3 := h_tree_Tree_Height) (h4 := h_tree_Tree_Count) (h5 := h_pager_Pager_Free) (h6 := h_tree_Tree_Get) (h7 := h_tree_Tree_Del) (h8 := h_tree_Tree_Root)
theorem own : ownKnob Tryz.prog.godebug = none := by kernel_rfl
theorem laidOut : laidOutB Tryz.prog = true := by kernel_rfl

set_option maxRecDepth 100000 in
theorem contract (H : Type) (enc : TypeId × Value → H) (W : World) (base : Nat) (args : Array Value) (ds gs : List (DataW H)) (before : List MemPlace)
    (hval : ∀ (j : Nat) t v, Tryz.f3.params[j]? = some t → args[j]? = some v → Value.okWide Tryz.prog W .any base t v)
    (hW : DataW.Whole enc Tryz.prog Tryz.f3.params.toList Rows.treePlaysSpec.vars false W args.toList ds gs before)
    (hwt : (DataW.weightsEach Tryz.prog (Tryz.f3.params.toList ++ Rows.treePlaysSpec.plain.varTypes Tryz.prog) (ds ++ gs)).all (· ≤ reachBytes) = true) :
    Calls Tryz.prog 3 args W fun e W' => ∃ v, e = .returned v ∧ Rows.treePlaysSpec.post enc Tryz.prog Tryz.f3 false true false false W args v W' := by
  have hW' := hW
  obtain ⟨p, q, hA0, hV, rfl, hfz, hnd⟩ := hW
  have hA : DataW.TrodAll enc Tryz.prog W 0 (fun _ => true) true Tryz.f3.params.toList args.toList ds p := hA0
  rw [Tryz.params3] at hA hval hwt
  obtain ⟨v0, vs0, d0, ds0, p0, q0, hargs, rfl, rfl, h0, r0⟩ := trodAll_cons hA
  obtain ⟨v1, vs1, d1, ds1, p1, q1, rfl, rfl, rfl, h1, r1⟩ := trodAll_cons r0
  obtain ⟨rfl, rfl, rfl⟩ := trodAll_nil r1
  obtain rfl : args = #[v0, v1] := by cases args; simp_all
  obtain ⟨rfl, rfl⟩ := trodVars_none hV
  obtain ⟨n, rfl, -, -⟩ := ZX Tryz.underlying3 (hval 0 3 v0 rfl rfl) h0 (Mr (j := 0) hwt rfl rfl)
  obtain ⟨ax, hax⟩ := VV (sz := 3) Tryz.underlying22 (by kernel_rfl) (by omega) (of_decide_eq_true (by kernel_rfl)) (Aa7 (ti := 3) (tb := 5) (ts := 37) Tryz.underlying54 (by kernel_rfl) rfl rfl rfl (by kernel_rfl) (by kernel_rfl) (by kernel_rfl) Tryz.underlying3 Tryz.underlying5 Tryz.underlying37 (of_decide_eq_true (by kernel_rfl))) (hval 1 22 v1 rfl rfl) h1 (Mr (j := 1) hwt rfl rfl)
  exact UY laidOut (by kernel_rfl) hW' rfl rfl (by kernel_rfl) Tryz.underlying4 (treePlays (f := 3) (f1 := 10) (f2 := 11) (f3 := 12) (f4 := 13) (hd := by kernel_rfl) (h1 := h_thimblelaw22_Planted) (h2 := h_thimblelaw22_Grown) (h3 := h_thimblelaw22_Has) (h4 := h_thimblelaw22_works) (d := hw W) (hw := hax))

set_option maxRecDepth 100000 in
theorem lifted (os : Os) (started : os.Started) (H : Type) (enc : TypeId × Value → H) :
    ReturnsInHanded {} Tryz.checked os 3 .any (Rows.treePlaysSpec.pre6 enc Tryz.prog Tryz.f3 Rows.treePlaysRow.domain false) (Rows.treePlaysSpec.post enc Tryz.prog Tryz.f3 false true false false) := by
  refine returnsInHanded_of_change_sized (C := Tryz.checked) own started (by kernel_rfl) Tryz.func3
    (ChangeSpec.witness6 (enc := enc) (C := Tryz.checked) false ⟨#[], #[.int .i64 0, .slice none 0 0], []⟩ 8 (by kernel_rfl) (by kernel_rfl) (by kernel_rfl) (by kernel_rfl)) ?_
  intro W base args ds gs before hval hW _ hwt _
  exact contract H enc W base args ds gs before hval hW hwt

theorem proved : Rows.TreePlaysSaid :=
  OpenClaim.holds_of_wide 3 Tryz.f3 rfl rfl rfl rfl rfl rfl rfl ⟨rfl, rfl, rfl, rfl, rfl⟩ rfl rfl rfl rfl rfl (by kernel_rfl) Tryz.func3 (by kernel_rfl)
    (of_decide_eq_true (by kernel_rfl)) (by unfold Func.isWrapper; first | (rw [if_pos (by decide +kernel)]; kernel_rfl) | (rw [if_neg (by decide +kernel)]; exact ⟨rfl, rfl⟩))
    (fun os started H enc _ => lifted os started H enc)
end Go.Proofs.YtpkcbopokjffhaaGreat.treePlays
