/-
  'thimblelaw22.TreeFull' returns true for every number, every row of calls and every two rows of bytes, and leaves them as they are: no condition.
-/
import Derived.Test.YtpkcbopokjffhaaGreatRows
import Derived.Test.YtpkcbopokjffhaaGreatPnH
namespace Go.Proofs.YtpkcbopokjffhaaGreat.treeFull
open Go Go.Gk Go.Gk.Dev Go.Gk.Cch Go.Gk.Pgr Go.Gk.Chn Go.Gk.Tre Go.Gk.Node Go.ChangeShapes Go.WideShapes Go.ChangeAt Go.RowKit
theorem h_device_New : Nf Tryz.prog 60 := Zv (f := 60) (hd := by kernel_rfl)
theorem h_thimbleref15_New : Ub Tryz.prog 61 := Aad (f := 61) (hd := by kernel_rfl)
theorem h_device_Device_Size : Hz Tryz.prog 93 := XP (f := 93) (hd := by kernel_rfl)
theorem h_cache_New : JV Tryz.prog 62 := Z1 (f := 62) (f1 := 93) (hd := by kernel_rfl) (h1 := h_device_Device_Size)
theorem h_thimbleref18_New : Uw Tryz.prog 63 := Aai (f := 63) (hd := by kernel_rfl)
theorem h_cache_Cache_none : HF Tryz.prog 85 := Yd (f := 85) (hd := by kernel_rfl)
theorem h_cache_Cache_Held : IY Tryz.prog 94 := Yx (f := 94) (f1 := 85) (hd := by kernel_rfl) (h1 := h_cache_Cache_none)
theorem h_pager_Pager_kind : IV Tryz.prog 95 := Zm (f := 95) (hd := by kernel_rfl)
theorem h_pager_New : R8 Tryz.prog 64 := ZN (f := 64) (f1 := 93) (f2 := 94) (f3 := 95) (hd := by kernel_rfl) (h1 := h_device_Device_Size) (h2 := h_cache_Cache_Held) (h3 := h_pager_Pager_kind)
theorem h_thimbleref16_Region : Ui Tryz.prog 96 := AaL (f := 96) (hd := by kernel_rfl)
theorem h_thimbleref19_New : Uv Tryz.prog 65 := Aah (f := 65) (f1 := 96) (f2 := 97) (hd := by kernel_rfl) (h1 := h_thimbleref16_Region)
theorem h_thimblelaw21_Made : M6 Tryz.prog 32 := WC (f := 32) (f1 := 60) (f2 := 61) (f3 := 62) (f4 := 63) (f5 := 64) (f6 := 65) (hd := by kernel_rfl) (h1 := h_device_New) (h2 := h_thimbleref15_New) (h3 := h_cache_New) (h4 := h_thimbleref18_New) (h5 := h_pager_New) (h6 := h_thimbleref19_New)
theorem h_pager_Pager_none : ET Tryz.prog 38 := XW (f := 38) (hd := by kernel_rfl)
theorem h_slices_Clone_int_int : D3 Bg 8 Tryz.prog 53 := Ql (f := 53) (hd := by kernel_rfl)
theorem h_maps_Clone_map_int_byte_int_byte : Hp Tryz.prog 54 := SH (f := 54) (t1 := 68) (hd := by kernel_rfl)
theorem h_pager_Pager_Mark : Ks Tryz.prog 26 := Y8 (f := 26) (f1 := 38) (f2 := 53) (f3 := 54) (hd := by kernel_rfl) (h1 := h_pager_Pager_none) (h2 := h_slices_Clone_int_int) (h3 := h_maps_Clone_map_int_byte_int_byte)
theorem h_tree_New : Rz Tryz.prog 30 := ZD (f := 30) (f1 := 26) (hd := by kernel_rfl) (h1 := h_pager_Pager_Mark)
theorem h_thimblelaw22_Planted : Ij Tryz.prog 10 := Vf (f := 10) (f1 := 32) (f2 := 30) (hd := by kernel_rfl) (h1 := h_thimblelaw21_Made) (h2 := h_tree_New)
theorem h_tree_Tree_none : HA Tryz.prog 37 := XH (f := 37) (hd := by kernel_rfl)
theorem h_tree_Tree_fits : Lo Tryz.prog 39 := Zr (f := 39) (f1 := 37) (hd := by kernel_rfl) (h1 := h_tree_Tree_none)
theorem h_chain_Pages : FD Tryz.prog 22 := Yo (f := 22) (hd := by kernel_rfl)
theorem h_pager_Pager_Drop : Gv Tryz.prog 72 := Zo (f := 72) (f1 := 38) (f2 := 95) (hd := by kernel_rfl) (h1 := h_pager_Pager_none) (h2 := h_pager_Pager_kind)
theorem h_chain_taken_1 : Sq Tryz.prog 125 := Zu (f := 125) (f3 := 72) (hd := by kernel_rfl) (h := h_pager_Pager_Drop)
theorem h_slices_Index_int_int : Pn Tryz.prog 101 := W5 (f := 101) (hd := by kernel_rfl)
theorem h_pager_Pager_Take : Go.Gk.Pgr.FO Tryz.prog 71 := Px (f := 71) (f1 := 38) (f2 := 101) (hd := by kernel_rfl) (h1 := h_pager_Pager_none) (h2 := h_slices_Index_int_int)
theorem h_chain_taken : OK Tryz.prog 98 := XF (f := 98) (f1 := 125) (f2 := 71) (hd := by kernel_rfl) (h0 := h_chain_taken_1) (h1 := h_pager_Pager_Take)
theorem h_slices_Clone_byte_byte : D3 AM 1 Tryz.prog 75 := OC (f := 75) (hd := by kernel_rfl)
theorem h_pager_Pager_Put : NZ Tryz.prog 70 := Aac (f := 70) (f1 := 38) (f2 := 95) (f3 := 75) (hd := by kernel_rfl) (h1 := h_pager_Pager_none) (h2 := h_pager_Pager_kind) (h3 := h_slices_Clone_byte_byte)
theorem h_chain_Put_cputb_ok : LW Tryz.prog 68 := Xa (f := 68) (f1 := 22) (f2 := 98) (f3 := 70) (hd := by kernel_rfl) (h1 := h_chain_Pages) (h2 := h_chain_taken) (h3 := h_pager_Pager_Put)
theorem h_tree_Tree_cell_tcellb_ok : JD Tryz.prog 42 := V7 (f := 42) (f1 := 68) (hd := by kernel_rfl) (h1 := h_chain_Put_cputb_ok)
theorem h_bytes_Compare : Ik Tryz.prog 79 := Uc (f := 79) (hd := by kernel_rfl)
theorem h_slices_IndexFunc_byte_byte : E5 Tryz.prog 157 := Ka (f := 157) (hd := by kernel_rfl)
theorem h_slices_ContainsFunc_byte_byte : Ee Tryz.prog 145 := IJ (f := 145) (f1 := 157) (hd := by kernel_rfl) (h1 := h_slices_IndexFunc_byte_byte)
theorem h_slices_IndexFunc_int_int : E5 Tryz.prog 158 := Mi (f := 158) (hd := by kernel_rfl)
theorem h_slices_ContainsFunc_int_int : Ee Tryz.prog 147 := Jy (f := 147) (f1 := 158) (hd := by kernel_rfl) (h1 := h_slices_IndexFunc_int_int)
theorem h_node_sound : LG Tryz.prog 126 := Xx (f := 126) (f1 := 79) (f2 := 145) (f3 := 146) (f4 := 147) (f5 := 148) (hd := by kernel_rfl) (h1 := h_bytes_Compare) (h2 := h_slices_ContainsFunc_byte_byte) (h3 := by kernel_rfl) (h4 := h_slices_ContainsFunc_int_int) (h5 := by kernel_rfl)
theorem h_node_Node_cell : NP Tryz.prog 128 := Zg (f := 128) (hd := by kernel_rfl)
theorem h_node_Size : KB Tryz.prog 105 := Zh (f := 105) (fc := 128) (hd := by kernel_rfl) (hc := h_node_Node_cell)
theorem h_node_Right : IU Tryz.prog 99 := NH (f := 99) (f1 := 126) (f2 := 105) (hd := by kernel_rfl) (h1 := h_node_sound) (h2 := h_node_Size)
theorem h_node_page : Ob Tryz.prog 100 := ZI (f := 100) (hd := by kernel_rfl)
theorem h_node_Bytes : Ly Tryz.prog 69 := X9 (f := 69) (f1 := 99) (f2 := 100) (hd := by kernel_rfl) (h1 := h_node_Right) (h2 := h_node_page)
theorem h_tree_Tree_put : HE Tryz.prog 43 := XZ (f := 43) (f1 := 69) (f2 := 70) (f3 := 71) (f4 := 72) (hd := by kernel_rfl) (h1 := h_node_Bytes) (h2 := h_pager_Pager_Put) (h3 := h_pager_Pager_Take) (h4 := h_pager_Pager_Drop)
theorem h_cache_Cache_find : Je Tryz.prog 86 := XI (f := 86) (hd := by kernel_rfl)
theorem h_cache_Cache_pinned : Ki Tryz.prog 163 := UQ (f := 163) (hd := by kernel_rfl)
theorem h_cache_Cache_sweep : Ny Tryz.prog 160 := Vm (f := 160) (f1 := 163) (hd := by kernel_rfl) (h1 := h_cache_Cache_pinned)
theorem h_cache_Cache_room : OZ Tryz.prog 151 := Ye (f := 151) (f1 := 160) (hd := by kernel_rfl) (h1 := h_cache_Cache_sweep)
theorem h_device_Device_ready : HM Tryz.prog 83 := VC (f := 83) (f1 := 93) (hd := by kernel_rfl) (h1 := h_device_Device_Size)
theorem h_device_Device_newest_iter_ok : RS Tryz.prog 161 := Zz (f := 161) (f1 := 164) (hd := by kernel_rfl) (h := by kernel_rfl)
theorem h_device_Device_Read : Pf Tryz.prog 152 := Yy (f := 152) (f1 := 83) (f2 := 161) (hd := by kernel_rfl) (h1 := h_device_Device_ready) (h2 := h_device_Device_newest_iter_ok)
theorem h_cache_Cache_Get : Kq Tryz.prog 133 := Z8 (f := 133) (f1 := 85) (f2 := 93) (f3 := 86) (f4 := 151) (f5 := 152) (hd := by kernel_rfl) (h1 := h_cache_Cache_none) (h2 := h_device_Device_Size) (h3 := h_cache_Cache_find) (h4 := h_cache_Cache_room) (h5 := h_device_Device_Read)
theorem h_cache_Cache_Leave : HX Tryz.prog 134 := VK (f := 134) (f1 := 85) (f2 := 86) (hd := by kernel_rfl) (h1 := h_cache_Cache_none) (h2 := h_cache_Cache_find)
theorem h_pager_Pager_Get : Fl Tryz.prog 108 := Zk (f := 108) (f1 := 38) (f2 := 95) (f3 := 75) (f4 := 133) (f5 := 134) (hd := by kernel_rfl) (h1 := h_pager_Pager_none) (h2 := h_pager_Pager_kind) (h3 := h_slices_Clone_byte_byte) (h4 := h_cache_Cache_Get) (h5 := h_cache_Cache_Leave)
theorem h_node_take : Go.Gk.Node.FO Tryz.prog 162 := Px (f := 162) (f1 := 75) (hd := by kernel_rfl) (h1 := h_slices_Clone_byte_byte)
theorem h_node_kid : UF Tryz.prog 153 := Aax (f := 153) (f1 := 162) (hd := by kernel_rfl) (h1 := h_node_take)
theorem h_node_piece : OM Tryz.prog 154 := WY (f := 154) (f1 := 162) (hd := by kernel_rfl) (h1 := h_node_take)
theorem h_node_parse : O6 Tryz.prog 135 := XN (f := 135) (f1 := 153) (f2 := 154) (hd := by kernel_rfl) (h1 := h_node_kid) (h2 := h_node_piece)
theorem h_bytes_Equal : LX Tryz.prog 80 := Xk (f := 80) (hd := by kernel_rfl)
theorem h_node_Read : RZ Tryz.prog 109 := Y6 (f := 109) (f1 := 135) (f2 := 99) (f3 := 100) (f4 := 80) (hd := by kernel_rfl) (h1 := h_node_parse) (h2 := h_node_Right) (h3 := h_node_page) (h4 := h_bytes_Equal)
theorem h_tree_Tree_read : Ja Tryz.prog 78 := W2 (f := 78) (f1 := 108) (f2 := 109) (hd := by kernel_rfl) (h1 := h_pager_Pager_Get) (h2 := h_node_Read)
theorem h_tree_Tree_level : HR Tryz.prog 47 := Wg (f := 47) (f1 := 78) (hd := by kernel_rfl) (h1 := h_tree_Tree_read)
theorem h_node_Find : Jg Tryz.prog 48 findD := Z4 (f := 48) (f1 := 79) (f2 := 80) (hd := by kernel_rfl) (h1 := h_bytes_Compare) (h2 := h_bytes_Equal)
theorem h_tree_far : QE Tryz.prog 81 := Aay (f := 81) (hd := by kernel_rfl)
theorem h_chain_pages_1_p1_ok : Xe Tryz.prog 155 := Abe (f := 155) (f2 := 22) (f3 := 108) (hd := by kernel_rfl) (h1 := h_chain_Pages) (h2 := h_pager_Pager_Get)
theorem h_chain_pages_cpages_ok : Nt Tryz.prog 136 := Wk (f := 136) (f1 := 155) (hd := by kernel_rfl) (h := h_chain_pages_1_p1_ok)
theorem h_chain_read : Lu Tryz.prog 111 := Xr (f := 111) (f1 := 136) (f2 := 22) (hd := by kernel_rfl) (h1 := h_chain_pages_cpages_ok) (h2 := h_chain_Pages)
theorem h_chain_Drop : LR Tryz.prog 102 := Yz (f := 102) (f1 := 111) (f2 := 72) (hd := by kernel_rfl) (h1 := h_chain_read) (h2 := h_pager_Pager_Drop)
theorem h_tree_Tree_lose : Mc Tryz.prog 73 := W4 (f := 73) (f1 := 81) (f2 := 102) (hd := by kernel_rfl) (h1 := h_tree_far) (h2 := h_chain_Drop)
theorem h_slices_Insert_byte_byte : JL RBs Tryz.prog 74 := Qj (f := 74) (f1 := 104) (hd := by kernel_rfl)
theorem h_node_Split_1 : Nq Tryz.prog 129 := Wx (f := 129) (f1 := 128) (hd := by kernel_rfl) (h1 := h_node_Node_cell)
theorem h_node_own : QH Tryz.prog 130 := AaD (f := 130) (f1 := 75) (hd := by kernel_rfl) (h1 := h_slices_Clone_byte_byte)
theorem h_node_Split : Pa Tryz.prog 106 := Yu (f := 106) (f1 := 126) (f2 := 129) (f3 := 130) (f4 := 75) (f5 := 53) (hd := by kernel_rfl) (h1 := h_node_sound) (h2 := h_node_Split_1) (h3 := h_node_own) (h4 := h_slices_Clone_byte_byte) (h5 := h_slices_Clone_int_int)
theorem h_tree_Tree_save : Hv Tryz.prog 76 := Xh (f := 76) (f1 := 99) (f2 := 43) (f3 := 105) (f4 := 106) (hd := by kernel_rfl) (h1 := h_node_Right) (h2 := h_tree_Tree_put) (h3 := h_node_Size) (h4 := h_node_Split)
theorem h_slices_Insert_int_int : JL Bg Tryz.prog 107 := SW (f := 107) (f1 := 132) (hd := by kernel_rfl)
theorem h_tree_Tree_renew : Jw Tryz.prog 77 := VF (f := 77) (f1 := 105) (f2 := 74) (f3 := 107) (f4 := 76) (hd := by kernel_rfl) (h1 := h_node_Size) (h2 := h_slices_Insert_byte_byte) (h3 := h_slices_Insert_int_int) (h4 := h_tree_Tree_save)
theorem h_tree_Tree_insert : NQ Tryz.prog 44 := Zn (f := 44) (f1 := 47) (f2 := 48) (f3 := 73) (f4 := 75) (f5 := 74) (f6 := 76) (f8 := 77) (hd := by kernel_rfl) (h1 := h_tree_Tree_level) (h2 := h_node_Find) (h3 := h_tree_Tree_lose) (h4 := h_slices_Clone_byte_byte) (h5 := h_slices_Insert_byte_byte) (h6 := h_tree_Tree_save) (h8 := h_tree_Tree_renew)
theorem h_tree_truth : O9 Tryz.prog 45 := Yf (f := 45) (hd := by kernel_rfl)
theorem h_tree_Tree_grow : I6 Tryz.prog 46 := XV (f := 46) (f1 := 43) (hd := by kernel_rfl) (h1 := h_tree_Tree_put)
theorem h_tree_Tree_Put_1_tput1b_ok : Na Tryz.prog 41 := VM (f := 41) (f1 := 42) (f2 := 43) (f3 := 44) (f4 := 45) (f5 := 46) (hd := by kernel_rfl) (h1 := h_tree_Tree_cell_tcellb_ok) (h2 := h_tree_Tree_put) (h3 := h_tree_Tree_insert) (h4 := h_tree_truth) (h5 := h_tree_Tree_grow)
theorem h_pager_Pager_Back : K7 Tryz.prog 28 := ZX (f := 28) (f1 := 38) (f2 := 53) (f3 := 54) (hd := by kernel_rfl) (h1 := h_pager_Pager_none) (h2 := h_slices_Clone_int_int) (h3 := h_maps_Clone_map_int_byte_int_byte)
theorem h_tree_Tree_change_1 : QT Tryz.prog 67 := Zl (f := 67) (f3 := 28) (hd := by kernel_rfl) (h := h_pager_Pager_Back)
theorem h_tree_Tree_change : Ip Tryz.prog 40 := UW (f := 40) (f1 := 26) (f2 := 67) (hd := by kernel_rfl) (h1 := h_pager_Pager_Mark) (h2 := h_tree_Tree_change_1)
theorem h_tree_Tree_Put_tputb_ok : FA Tryz.prog 18 := XJ (f := 18) (f1 := 39) (f2 := 41) (f3 := 40) (hd := by kernel_rfl) (h1 := h_tree_Tree_fits) (h2 := h_tree_Tree_Put_1_tput1b_ok) (h3 := h_tree_Tree_change)
theorem h_tree_Tree_Height : G5 Tryz.prog 15 := TX (f := 15) (f1 := 37) (hd := by kernel_rfl) (h1 := h_tree_Tree_none)
theorem h_tree_Tree_Count : HS Tryz.prog 14 := Wd (f := 14) (f1 := 37) (hd := by kernel_rfl) (h1 := h_tree_Tree_none)
theorem h_pager_Pager_Free : Ld Tryz.prog 17 := Zi (f := 17) (f1 := 38) (hd := by kernel_rfl) (h1 := h_pager_Pager_none)
theorem h_chain_Get : OJ Tryz.prog 82 := Xj (f := 82) (f1 := 111) (hd := by kernel_rfl) (h1 := h_chain_read)
theorem h_tree_Tree_value : Jz Tryz.prog 49 := Wn (f := 49) (f1 := 75) (f2 := 81) (f3 := 82) (hd := by kernel_rfl) (h1 := h_slices_Clone_byte_byte) (h2 := h_tree_far) (h3 := h_chain_Get)
theorem h_tree_Tree_Get : HW Tryz.prog 20 := Zq (f := 20) (f1 := 39) (f2 := 47) (f3 := 48) (f4 := 49) (hd := by kernel_rfl) (h1 := h_tree_Tree_fits) (h2 := h_tree_Tree_level) (h3 := h_node_Find) (h4 := h_tree_Tree_value)
theorem h_slices_Delete_byte_byte : JM RBs Tryz.prog 88 := Qh (f := 88) (hd := by kernel_rfl)
theorem h_node_joined_byte : GO RBs Tryz.prog 137 := SG (f := 137) (hd := by kernel_rfl)
theorem h_node_joined_int : GO Bg Tryz.prog 138 := UR (f := 138) (hd := by kernel_rfl)
theorem h_node_Join : QX Tryz.prog 112 := ZZ (f := 112) (f1 := 137) (f2 := 130) (f3 := 138) (hd := by kernel_rfl) (h1 := h_node_joined_byte) (h2 := h_node_own) (h3 := h_node_joined_int)
theorem h_slices_Delete_int_int : JM Bg Tryz.prog 113 := SX (f := 113) (hd := by kernel_rfl)
theorem h_tree_Tree_mend : Pq Tryz.prog 89 := W7 (f := 89) (f1 := 78) (f2 := 112) (f3 := 76) (f4 := 72) (f5 := 88) (f6 := 113) (hd := by kernel_rfl) (h1 := h_tree_Tree_read) (h2 := h_node_Join) (h3 := h_tree_Tree_save) (h4 := h_pager_Pager_Drop) (h5 := h_slices_Delete_byte_byte) (h6 := h_slices_Delete_int_int)
theorem h_tree_Tree_remove : R1 Tryz.prog 56 := ZG (f := 56) (f1 := 47) (f2 := 48) (f3 := 73) (f4 := 88) (f5 := 76) (f7 := 89) (f8 := 77) (hd := by kernel_rfl) (h1 := h_tree_Tree_level) (h2 := h_node_Find) (h3 := h_tree_Tree_lose) (h4 := h_slices_Delete_byte_byte) (h5 := h_tree_Tree_save) (h7 := h_tree_Tree_mend) (h8 := h_tree_Tree_renew)
theorem h_tree_Tree_shrink : Kt Tryz.prog 57 := UB (f := 57) (f1 := 78) (f2 := 72) (hd := by kernel_rfl) (h1 := h_tree_Tree_read) (h2 := h_pager_Pager_Drop)
theorem h_tree_Tree_Del_1 : OI Tryz.prog 55 := Yl (f := 55) (f1 := 56) (f2 := 46) (f3 := 57) (hd := by kernel_rfl) (h1 := h_tree_Tree_remove) (h2 := h_tree_Tree_grow) (h3 := h_tree_Tree_shrink)
theorem h_tree_Tree_Del : NN Tryz.prog 27 := Ze (f := 27) (f1 := 39) (f2 := 55) (f3 := 40) (hd := by kernel_rfl) (h1 := h_tree_Tree_fits) (h2 := h_tree_Tree_Del_1) (h3 := h_tree_Tree_change)
theorem h_tree_Tree_Root : LF Tryz.prog 16 := XM (f := 16) (f1 := 37) (hd := by kernel_rfl) (h1 := h_tree_Tree_none)
theorem h_thimblelaw22_works : Yb Tryz.prog 13 := Ue (f := 13) (f1 := 10) (f2 := 18) (f3 := 15) (f4 := 14) (f5 := 17) (f6 := 20) (f7 := 27) (f8 := 16) (hd := by kernel_rfl) (h1 := h_thimblelaw22_Planted) (h2 := h_tree_Tree_Put_tputb_ok) (h3 := h_tree_Tree_Height) (h4 := h_tree_Tree_Count) (h5 := h_pager_Pager_Free) (h6 := h_tree_Tree_Get) (h7 := h_tree_Tree_Del) (h8 := h_tree_Tree_Root)
theorem h_thimblelaw22_Short : LN Tryz.prog 19 := Xv (f := 19) (hd := by kernel_rfl)
theorem h_thimblelaw22_wrong : Nv Tryz.prog 33 := VU (f := 33) (hd := by kernel_rfl)
theorem h_thimbleref22_find : I3 Tryz.prog 66 := Sc (f := 66) (hd := by kernel_rfl)
theorem h_thimbleref22_Del : LQ Tryz.prog 35 := X5 (f := 35) (f1 := 66) (hd := by kernel_rfl) (h1 := h_thimbleref22_find)
theorem h_thimbleref22_Put : Pl Tryz.prog 34 := X0 (f := 34) (f1 := 35) (f2 := 66) (hd := by kernel_rfl) (h1 := h_thimbleref22_Del) (h2 := h_thimbleref22_find)
theorem h_device_Device_burn : LM Tryz.prog 84 := Xf (f := 84) (hd := by kernel_rfl)
theorem h_device_Device_Write : MU Tryz.prog 50 := Wm (f := 50) (f1 := 83) (f2 := 84) (hd := by kernel_rfl) (h1 := h_device_Device_ready) (h2 := h_device_Device_burn)
theorem h_device_Device_Sync : OV Tryz.prog 51 := Yt (f := 51) (f1 := 83) (f2 := 84) (hd := by kernel_rfl) (h1 := h_device_Device_ready) (h2 := h_device_Device_burn)
theorem h_pager_Pager_Flush : OW Tryz.prog 23 := WZ (f := 23) (f1 := 38) (f2 := 50) (f3 := 51) (hd := by kernel_rfl) (h1 := h_pager_Pager_none) (h2 := h_device_Device_Write) (h3 := h_device_Device_Sync)
theorem h_cache_Cache_Forget : G0 Tryz.prog 52 := UE (f := 52) (f1 := 85) (f2 := 86) (hd := by kernel_rfl) (h1 := h_cache_Cache_none) (h2 := h_cache_Cache_find)
theorem h_pager_Pager_Done : Q7 Tryz.prog 24 := ZV (f := 24) (f1 := 38) (f2 := 52) (hd := by kernel_rfl) (h1 := h_pager_Pager_none) (h2 := h_cache_Cache_Forget)
theorem h_thimbleref22_Get : OU Tryz.prog 36 := Xp (f := 36) (f1 := 66) (hd := by kernel_rfl) (h1 := h_thimbleref22_find)
theorem h_thimblelaw22_Grown : O8 Tryz.prog 11 := Xd (f := 11) (f1 := 19) (f2 := 33) (f3 := 15) (f4 := 22) (f5 := 17) (f6 := 18) (f7 := 34) (f8 := 27) (f9 := 35) (f10 := 23) (f11 := 24) (f12 := 20) (f13 := 36) (f14 := 14) (hd := by kernel_rfl) (h1 := h_thimblelaw22_Short) (h2 := h_thimblelaw22_wrong) (h3 := h_tree_Tree_Height) (h4 := h_chain_Pages) (h5 := h_pager_Pager_Free) (h6 := h_tree_Tree_Put_tputb_ok) (h7 := h_thimbleref22_Put) (h8 := h_tree_Tree_Del) (h9 := h_thimbleref22_Del) (h10 := h_pager_Pager_Flush) (h11 := h_pager_Pager_Done) (h12 := h_tree_Tree_Get) (h13 := h_thimbleref22_Get) (h14 := h_tree_Tree_Count)
theorem h_thimblelaw22_Has : Rc Tryz.prog 12 := Y9 (f := 12) (f1 := 20) (f2 := 14) (hd := by kernel_rfl) (h1 := h_tree_Tree_Get) (h2 := h_tree_Tree_Count)
theorem own : ownKnob Tryz.prog.godebug = none := by kernel_rfl
theorem laidOut : laidOutB Tryz.prog = true := by kernel_rfl

set_option maxRecDepth 100000 in
theorem contract (H : Type) (enc : TypeId × Value → H) (W : World) (base : Nat) (args : Array Value) (ds gs : List (DataW H)) (before : List MemPlace)
    (hval : ∀ (j : Nat) t v, Tryz.f5.params[j]? = some t → args[j]? = some v → Value.okWide Tryz.prog W .any base t v)
    (hW : DataW.Whole enc Tryz.prog Tryz.f5.params.toList Rows.treeFullSpec.vars false W args.toList ds gs before)
    (hwt : (DataW.weightsEach Tryz.prog (Tryz.f5.params.toList ++ Rows.treeFullSpec.plain.varTypes Tryz.prog) (ds ++ gs)).all (· ≤ reachBytes) = true) :
    Calls Tryz.prog 5 args W fun e W' => ∃ v, e = .returned v ∧ Rows.treeFullSpec.post enc Tryz.prog Tryz.f5 false true false false W args v W' := by
  have hW' := hW
  obtain ⟨p, q, hA0, hV, rfl, hfz, hnd⟩ := hW
  have hA : DataW.TrodAll enc Tryz.prog W 0 (fun _ => true) true Tryz.f5.params.toList args.toList ds p := hA0
  rw [Tryz.params5] at hA hval hwt
  obtain ⟨v0, vs0, d0, ds0, p0, q0, hargs, rfl, rfl, h0, r0⟩ := trodAll_cons hA
  obtain ⟨v1, vs1, d1, ds1, p1, q1, rfl, rfl, rfl, h1, r1⟩ := trodAll_cons r0
  obtain ⟨v2, vs2, d2, ds2, p2, q2, rfl, rfl, rfl, h2, r2⟩ := trodAll_cons r1
  obtain ⟨v3, vs3, d3, ds3, p3, q3, rfl, rfl, rfl, h3, r3⟩ := trodAll_cons r2
  obtain ⟨rfl, rfl, rfl⟩ := trodAll_nil r3
  obtain rfl : args = #[v0, v1, v2, v3] := by cases args; simp_all
  obtain ⟨rfl, rfl⟩ := trodVars_none hV
  obtain ⟨n, rfl, -, -⟩ := Z2 Tryz.underlying3 (hval 0 3 v0 rfl rfl) h0 (GR (j := 0) hwt rfl rfl)
  obtain ⟨ax, hax⟩ := Li (sz := 3) Tryz.underlying22 (by kernel_rfl) (by omega) (of_decide_eq_true (by kernel_rfl)) (Abn (ti := 3) (tb := 5) (ts := 37) Tryz.underlying54 (by kernel_rfl) rfl rfl rfl (by kernel_rfl) (by kernel_rfl) (by kernel_rfl) Tryz.underlying3 Tryz.underlying5 Tryz.underlying37 (of_decide_eq_true (by kernel_rfl))) (hval 1 22 v1 rfl rfl) h1 (GR (j := 1) hwt rfl rfl)
  obtain ⟨kx, hkx⟩ := Li (sz := 1) Tryz.underlying37 (by kernel_rfl) (by omega) (of_decide_eq_true (by kernel_rfl)) (LJ Tryz.underlying5) (hval 2 37 v2 rfl rfl) h2 (GR (j := 2) hwt rfl rfl)
  obtain ⟨vx, hvx⟩ := Li (sz := 1) Tryz.underlying37 (by kernel_rfl) (by omega) (of_decide_eq_true (by kernel_rfl)) (LJ Tryz.underlying5) (hval 3 37 v3 rfl rfl) h3 (GR (j := 3) hwt rfl rfl)
  exact Uh laidOut (by kernel_rfl) hW' rfl rfl (by kernel_rfl) Tryz.underlying4 (treeFull (f := 5) (f1 := 13) (f2 := 10) (f3 := 11) (f4 := 16) (f5 := 15) (f6 := 17) (f7 := 19) (f8 := 18) (f9 := 20) (f10 := 12) (hd := by kernel_rfl) (h1 := h_thimblelaw22_works) (h2 := h_thimblelaw22_Planted) (h3 := h_thimblelaw22_Grown) (h4 := h_tree_Tree_Root) (h5 := h_tree_Tree_Height) (h6 := h_pager_Pager_Free) (h7 := h_thimblelaw22_Short) (h8 := h_tree_Tree_Put_tputb_ok) (h9 := h_tree_Tree_Get) (h10 := h_thimblelaw22_Has) (d := hw W) (hw := hax) (hk := hkx) (hv := hvx))

set_option maxRecDepth 100000 in
theorem lifted (os : Os) (started : os.Started) (H : Type) (enc : TypeId × Value → H) :
    ReturnsInHanded {} Tryz.checked os 5 .any (Rows.treeFullSpec.pre6 enc Tryz.prog Tryz.f5 Rows.treeFullRow.domain false) (Rows.treeFullSpec.post enc Tryz.prog Tryz.f5 false true false false) := by
  refine returnsInHanded_of_change_sized (C := Tryz.checked) own started (by kernel_rfl) Tryz.func5
    (ChangeSpec.witness6 (enc := enc) (C := Tryz.checked) false ⟨#[], #[.int .i64 0, .slice none 0 0, .slice none 0 0, .slice none 0 0], []⟩ 8 (by kernel_rfl) (by kernel_rfl) (by kernel_rfl) (by kernel_rfl)) ?_
  intro W base args ds gs before hval hW _ hwt _
  exact contract H enc W base args ds gs before hval hW hwt

theorem proved : Rows.TreeFullSaid :=
  OpenClaim.holds_of_wide 5 Tryz.f5 rfl rfl rfl rfl rfl rfl rfl ⟨rfl, rfl, rfl, rfl, rfl⟩ rfl rfl rfl rfl rfl (by kernel_rfl) Tryz.func5 (by kernel_rfl)
    (of_decide_eq_true (by kernel_rfl)) (by unfold Func.isWrapper; first | (rw [if_pos (by decide +kernel)]; kernel_rfl) | (rw [if_neg (by decide +kernel)]; exact ⟨rfl, rfl⟩))
    (fun os started H enc _ => lifted os started H enc)
end Go.Proofs.YtpkcbopokjffhaaGreat.treeFull
