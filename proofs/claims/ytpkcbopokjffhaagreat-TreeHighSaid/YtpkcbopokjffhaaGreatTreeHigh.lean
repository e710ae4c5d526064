/-
  'thimblelaw22.TreeHigh' returns true for every row of calls, and leaves it as it is: no condition.
-/
import Derived.Test.YtpkcbopokjffhaaGreatRows
import Derived.Test.YtpkcbopokjffhaaGreatPmH
namespace Go.Proofs.YtpkcbopokjffhaaGreat.treeHigh
open Go Go.Gk Go.Gk.Dev Go.Gk.Cch Go.Gk.Pgr Go.Gk.Chn Go.Gk.Tre Go.Gk.Node Go.ChangeShapes Go.WideShapes Go.ChangeAt Go.RowKit
theorem h_device_New : Nc Tryz.prog 60 := Zw (f := 60) (hd := by kernel_rfl)
theorem h_thimbleref15_New : UF Tryz.prog 61 := AaK (f := 61) (hd := by kernel_rfl)
theorem h_device_Device_Size : Hz Tryz.prog 93 := X9 (f := 93) (hd := by kernel_rfl)
theorem h_cache_New : Jg Tryz.prog 62 := Y6 (f := 62) (f1 := 93) (hd := by kernel_rfl) (h1 := h_device_Device_Size)
theorem h_thimbleref18_New : UC Tryz.prog 63 := Z4 (f := 63) (hd := by kernel_rfl)
theorem h_cache_Cache_none : HB Tryz.prog 85 := Xo (f := 85) (hd := by kernel_rfl)
theorem h_cache_Cache_Held : IL Tryz.prog 94 := XU (f := 94) (f1 := 85) (hd := by kernel_rfl) (h1 := h_cache_Cache_none)
theorem h_pager_Pager_kind : I2 Tryz.prog 95 := ZA (f := 95) (hd := by kernel_rfl)
theorem h_pager_New : RK Tryz.prog 64 := Zd (f := 64) (f1 := 93) (f2 := 94) (f3 := 95) (hd := by kernel_rfl) (h1 := h_device_Device_Size) (h2 := h_cache_Cache_Held) (h3 := h_pager_Pager_kind)
theorem h_thimbleref16_Region : Ut Tryz.prog 96 := Aab (f := 96) (hd := by kernel_rfl)
theorem h_thimbleref19_New : TR Tryz.prog 65 := Aah (f := 65) (f1 := 96) (f2 := 97) (hd := by kernel_rfl) (h1 := h_thimbleref16_Region)
theorem h_thimblelaw21_Made : Nl Tryz.prog 32 := Vi (f := 32) (f1 := 60) (f2 := 61) (f3 := 62) (f4 := 63) (f5 := 64) (f6 := 65) (hd := by kernel_rfl) (h1 := h_device_New) (h2 := h_thimbleref15_New) (h3 := h_cache_New) (h4 := h_thimbleref18_New) (h5 := h_pager_New) (h6 := h_thimbleref19_New)
theorem h_pager_Pager_none : EN Tryz.prog 38 := W2 (f := 38) (hd := by kernel_rfl)
theorem h_slices_Clone_int_int : DZ Bf 8 Tryz.prog 53 := Qc (f := 53) (hd := by kernel_rfl)
theorem h_maps_Clone_map_int_byte_int_byte : Hm Tryz.prog 54 := SN (f := 54) (t1 := 68) (hd := by kernel_rfl)
theorem h_pager_Pager_Mark : K4 Tryz.prog 26 := ZF (f := 26) (f1 := 38) (f2 := 53) (f3 := 54) (hd := by kernel_rfl) (h1 := h_pager_Pager_none) (h2 := h_slices_Clone_int_int) (h3 := h_maps_Clone_map_int_byte_int_byte)
theorem h_tree_New : QL Tryz.prog 30 := Zi (f := 30) (f1 := 26) (hd := by kernel_rfl) (h1 := h_pager_Pager_Mark)
theorem h_thimblelaw22_Planted : H7 Tryz.prog 10 := TU (f := 10) (f1 := 32) (f2 := 30) (hd := by kernel_rfl) (h1 := h_thimblelaw21_Made) (h2 := h_tree_New)
theorem h_tree_Tree_none : HA Tryz.prog 37 := XB (f := 37) (hd := by kernel_rfl)
theorem h_tree_Tree_fits : K5 Tryz.prog 39 := Y9 (f := 39) (f1 := 37) (hd := by kernel_rfl) (h1 := h_tree_Tree_none)
theorem h_chain_Pages : Fz Tryz.prog 22 := Xp (f := 22) (hd := by kernel_rfl)
theorem h_pager_Pager_Drop : Gq Tryz.prog 72 := Zc (f := 72) (f1 := 38) (f2 := 95) (hd := by kernel_rfl) (h1 := h_pager_Pager_none) (h2 := h_pager_Pager_kind)
theorem h_chain_taken_1 : Q3 Tryz.prog 125 := Zo (f := 125) (f3 := 72) (hd := by kernel_rfl) (h := h_pager_Pager_Drop)
theorem h_slices_Index_int_int : OI Tryz.prog 101 := X6 (f := 101) (hd := by kernel_rfl)
theorem h_pager_Pager_Take : Go.Gk.Pgr.FJ Tryz.prog 71 := OY (f := 71) (f1 := 38) (f2 := 101) (hd := by kernel_rfl) (h1 := h_pager_Pager_none) (h2 := h_slices_Index_int_int)
theorem h_chain_taken : Ox Tryz.prog 98 := XF (f := 98) (f1 := 125) (f2 := 71) (hd := by kernel_rfl) (h0 := h_chain_taken_1) (h1 := h_pager_Pager_Take)
theorem h_slices_Clone_byte_byte : DZ AN 1 Tryz.prog 75 := NT (f := 75) (hd := by kernel_rfl)
theorem h_pager_Pager_Put : N3 Tryz.prog 70 := Aaj (f := 70) (f1 := 38) (f2 := 95) (f3 := 75) (hd := by kernel_rfl) (h1 := h_pager_Pager_none) (h2 := h_pager_Pager_kind) (h3 := h_slices_Clone_byte_byte)
theorem h_chain_Put_cputb_ok : Lp Tryz.prog 68 := WT (f := 68) (f1 := 22) (f2 := 98) (f3 := 70) (hd := by kernel_rfl) (h1 := h_chain_Pages) (h2 := h_chain_taken) (h3 := h_pager_Pager_Put)
theorem h_tree_Tree_cell_tcellb_ok : JF Tryz.prog 42 := Vc (f := 42) (f1 := 68) (hd := by kernel_rfl) (h1 := h_chain_Put_cputb_ok)
theorem h_bytes_Compare : Ik Tryz.prog 79 := UX (f := 79) (hd := by kernel_rfl)
theorem h_slices_IndexFunc_byte_byte : E9 Tryz.prog 157 := J2 (f := 157) (hd := by kernel_rfl)
theorem h_slices_ContainsFunc_byte_byte : Ec Tryz.prog 145 := IE (f := 145) (f1 := 157) (hd := by kernel_rfl) (h1 := h_slices_IndexFunc_byte_byte)
theorem h_slices_IndexFunc_int_int : E9 Tryz.prog 158 := Mf (f := 158) (hd := by kernel_rfl)
theorem h_slices_ContainsFunc_int_int : Ec Tryz.prog 147 := Jq (f := 147) (f1 := 158) (hd := by kernel_rfl) (h1 := h_slices_IndexFunc_int_int)
theorem h_node_sound : LX Tryz.prog 126 := Yn (f := 126) (f1 := 79) (f2 := 145) (f3 := 146) (f4 := 147) (f5 := 148) (hd := by kernel_rfl) (h1 := h_bytes_Compare) (h2 := h_slices_ContainsFunc_byte_byte) (h3 := by kernel_rfl) (h4 := h_slices_ContainsFunc_int_int) (h5 := by kernel_rfl)
theorem h_node_Node_cell : N6 Tryz.prog 128 := Y4 (f := 128) (hd := by kernel_rfl)
theorem h_node_Size : Kv Tryz.prog 105 := ZN (f := 105) (fc := 128) (hd := by kernel_rfl) (hc := h_node_Node_cell)
theorem h_node_Right : IK Tryz.prog 99 := MF (f := 99) (f1 := 126) (f2 := 105) (hd := by kernel_rfl) (h1 := h_node_sound) (h2 := h_node_Size)
theorem h_node_page : NQ Tryz.prog 100 := ZP (f := 100) (hd := by kernel_rfl)
theorem h_node_Bytes : LO Tryz.prog 69 := Xf (f := 69) (f1 := 99) (f2 := 100) (hd := by kernel_rfl) (h1 := h_node_Right) (h2 := h_node_page)
theorem h_tree_Tree_put : Ho Tryz.prog 43 := XY (f := 43) (f1 := 69) (f2 := 70) (f3 := 71) (f4 := 72) (hd := by kernel_rfl) (h1 := h_node_Bytes) (h2 := h_pager_Pager_Put) (h3 := h_pager_Pager_Take) (h4 := h_pager_Pager_Drop)
theorem h_cache_Cache_find : IY Tryz.prog 86 := Xr (f := 86) (hd := by kernel_rfl)
theorem h_cache_Cache_pinned : KS Tryz.prog 163 := Ux (f := 163) (hd := by kernel_rfl)
theorem h_cache_Cache_sweep : MT Tryz.prog 160 := Wp (f := 160) (f1 := 163) (hd := by kernel_rfl) (h1 := h_cache_Cache_pinned)
theorem h_cache_Cache_room : OP Tryz.prog 151 := Xq (f := 151) (f1 := 160) (hd := by kernel_rfl) (h1 := h_cache_Cache_sweep)
theorem h_device_Device_ready : HV Tryz.prog 83 := Wa (f := 83) (f1 := 93) (hd := by kernel_rfl) (h1 := h_device_Device_Size)
theorem h_device_Device_newest_iter_ok : Rr Tryz.prog 161 := YY (f := 161) (f1 := 164) (hd := by kernel_rfl) (h := by kernel_rfl)
theorem h_device_Device_Read : OX Tryz.prog 152 := WL (f := 152) (f1 := 83) (f2 := 161) (hd := by kernel_rfl) (h1 := h_device_Device_ready) (h2 := h_device_Device_newest_iter_ok)
theorem h_cache_Cache_Get : Kj Tryz.prog 133 := YR (f := 133) (f1 := 85) (f2 := 93) (f3 := 86) (f4 := 151) (f5 := 152) (hd := by kernel_rfl) (h1 := h_cache_Cache_none) (h2 := h_device_Device_Size) (h3 := h_cache_Cache_find) (h4 := h_cache_Cache_room) (h5 := h_device_Device_Read)
theorem h_cache_Cache_Leave : HW Tryz.prog 134 := VJ (f := 134) (f1 := 85) (f2 := 86) (hd := by kernel_rfl) (h1 := h_cache_Cache_none) (h2 := h_cache_Cache_find)
theorem h_pager_Pager_Get : Fj Tryz.prog 108 := Zp (f := 108) (f1 := 38) (f2 := 95) (f3 := 75) (f4 := 133) (f5 := 134) (hd := by kernel_rfl) (h1 := h_pager_Pager_none) (h2 := h_pager_Pager_kind) (h3 := h_slices_Clone_byte_byte) (h4 := h_cache_Cache_Get) (h5 := h_cache_Cache_Leave)
theorem h_node_take : Go.Gk.Node.FJ Tryz.prog 162 := OY (f := 162) (f1 := 75) (hd := by kernel_rfl) (h1 := h_slices_Clone_byte_byte)
theorem h_node_kid : UA Tryz.prog 153 := Aai (f := 153) (f1 := 162) (hd := by kernel_rfl) (h1 := h_node_take)
theorem h_node_piece : ON Tryz.prog 154 := WY (f := 154) (f1 := 162) (hd := by kernel_rfl) (h1 := h_node_take)
theorem h_node_parse : OW Tryz.prog 135 := Xl (f := 135) (f1 := 153) (f2 := 154) (hd := by kernel_rfl) (h1 := h_node_kid) (h2 := h_node_piece)
theorem h_bytes_Equal : Ln Tryz.prog 80 := Yd (f := 80) (hd := by kernel_rfl)
theorem h_node_Read : Rs Tryz.prog 109 := Zu (f := 109) (f1 := 135) (f2 := 99) (f3 := 100) (f4 := 80) (hd := by kernel_rfl) (h1 := h_node_parse) (h2 := h_node_Right) (h3 := h_node_page) (h4 := h_bytes_Equal)
theorem h_tree_Tree_read : IU Tryz.prog 78 := XI (f := 78) (f1 := 108) (f2 := 109) (hd := by kernel_rfl) (h1 := h_pager_Pager_Get) (h2 := h_node_Read)
theorem h_tree_Tree_level : HH Tryz.prog 47 := VD (f := 47) (f1 := 78) (hd := by kernel_rfl) (h1 := h_tree_Tree_read)
theorem h_node_Find : IV Tryz.prog 48 findD := Zq (f := 48) (f1 := 79) (f2 := 80) (hd := by kernel_rfl) (h1 := h_bytes_Compare) (h2 := h_bytes_Equal)
theorem h_tree_far : Qw Tryz.prog 81 := AaF (f := 81) (hd := by kernel_rfl)
theorem h_chain_pages_1_p1_ok : Xy Tryz.prog 155 := AaP (f := 155) (f2 := 22) (f3 := 108) (hd := by kernel_rfl) (h1 := h_chain_Pages) (h2 := h_pager_Pager_Get)
theorem h_chain_pages_cpages_ok : MW Tryz.prog 136 := Wg (f := 136) (f1 := 155) (hd := by kernel_rfl) (h := h_chain_pages_1_p1_ok)
theorem h_chain_read : LQ Tryz.prog 111 := W9 (f := 111) (f1 := 136) (f2 := 22) (hd := by kernel_rfl) (h1 := h_chain_pages_cpages_ok) (h2 := h_chain_Pages)
theorem h_chain_Drop : LN Tryz.prog 102 := XN (f := 102) (f1 := 111) (f2 := 72) (hd := by kernel_rfl) (h1 := h_chain_read) (h2 := h_pager_Pager_Drop)
theorem h_tree_Tree_lose : Lu Tryz.prog 73 := WW (f := 73) (f1 := 81) (f2 := 102) (hd := by kernel_rfl) (h1 := h_tree_far) (h2 := h_chain_Drop)
theorem h_slices_Insert_byte_byte : JT RBs Tryz.prog 74 := P9 (f := 74) (f1 := 104) (hd := by kernel_rfl)
theorem h_node_Split_1 : MO Tryz.prog 129 := Va (f := 129) (f1 := 128) (hd := by kernel_rfl) (h1 := h_node_Node_cell)
theorem h_node_own : Qi Tryz.prog 130 := Z1 (f := 130) (f1 := 75) (hd := by kernel_rfl) (h1 := h_slices_Clone_byte_byte)
theorem h_node_Split : OJ Tryz.prog 106 := Xk (f := 106) (f1 := 126) (f2 := 129) (f3 := 130) (f4 := 75) (f5 := 53) (hd := by kernel_rfl) (h1 := h_node_sound) (h2 := h_node_Split_1) (h3 := h_node_own) (h4 := h_slices_Clone_byte_byte) (h5 := h_slices_Clone_int_int)
theorem h_tree_Tree_save : Hp Tryz.prog 76 := Xg (f := 76) (f1 := 99) (f2 := 43) (f3 := 105) (f4 := 106) (hd := by kernel_rfl) (h1 := h_node_Right) (h2 := h_tree_Tree_put) (h3 := h_node_Size) (h4 := h_node_Split)
theorem h_slices_Insert_int_int : JT Bf Tryz.prog 107 := SM (f := 107) (f1 := 132) (hd := by kernel_rfl)
theorem h_tree_Tree_renew : Jw Tryz.prog 77 := Wb (f := 77) (f1 := 105) (f2 := 74) (f3 := 107) (f4 := 76) (hd := by kernel_rfl) (h1 := h_node_Size) (h2 := h_slices_Insert_byte_byte) (h3 := h_slices_Insert_int_int) (h4 := h_tree_Tree_save)
theorem h_tree_Tree_insert : Oq Tryz.prog 44 := ZQ (f := 44) (f1 := 47) (f2 := 48) (f3 := 73) (f4 := 75) (f5 := 74) (f6 := 76) (f8 := 77) (hd := by kernel_rfl) (h1 := h_tree_Tree_level) (h2 := h_node_Find) (h3 := h_tree_Tree_lose) (h4 := h_slices_Clone_byte_byte) (h5 := h_slices_Insert_byte_byte) (h6 := h_tree_Tree_save) (h8 := h_tree_Tree_renew)
theorem h_tree_truth : O1 Tryz.prog 45 := W4 (f := 45) (hd := by kernel_rfl)
theorem h_tree_Tree_grow : IS Tryz.prog 46 := XS (f := 46) (f1 := 43) (hd := by kernel_rfl) (h1 := h_tree_Tree_put)
theorem h_tree_Tree_Put_1_tput1b_ok : MS Tryz.prog 41 := VO (f := 41) (f1 := 42) (f2 := 43) (f3 := 44) (f4 := 45) (f5 := 46) (hd := by kernel_rfl) (h1 := h_tree_Tree_cell_tcellb_ok) (h2 := h_tree_Tree_put) (h3 := h_tree_Tree_insert) (h4 := h_tree_truth) (h5 := h_tree_Tree_grow)
theorem h_pager_Pager_Back : Kw Tryz.prog 28 := Zg (f := 28) (f1 := 38) (f2 := 53) (f3 := 54) (hd := by kernel_rfl) (h1 := h_pager_Pager_none) (h2 := h_slices_Clone_int_int) (h3 := h_maps_Clone_map_int_byte_int_byte)
theorem h_tree_Tree_change_1 : QV Tryz.prog 67 := YT (f := 67) (f3 := 28) (hd := by kernel_rfl) (h := h_pager_Pager_Back)
theorem h_tree_Tree_change : Ie Tryz.prog 40 := UQ (f := 40) (f1 := 26) (f2 := 67) (hd := by kernel_rfl) (h1 := h_pager_Pager_Mark) (h2 := h_tree_Tree_change_1)
theorem h_tree_Tree_Put_tputb_ok : Gh Tryz.prog 18 := WJ (f := 18) (f1 := 39) (f2 := 41) (f3 := 40) (hd := by kernel_rfl) (h1 := h_tree_Tree_fits) (h2 := h_tree_Tree_Put_1_tput1b_ok) (h3 := h_tree_Tree_change)
theorem h_tree_Tree_Height : GY Tryz.prog 15 := UL (f := 15) (f1 := 37) (hd := by kernel_rfl) (h1 := h_tree_Tree_none)
theorem h_tree_Tree_Count : HP Tryz.prog 14 := V5 (f := 14) (f1 := 37) (hd := by kernel_rfl) (h1 := h_tree_Tree_none)
theorem h_pager_Pager_Free : NY Tryz.prog 17 := Za (f := 17) (f1 := 38) (hd := by kernel_rfl) (h1 := h_pager_Pager_none)
theorem h_chain_Get : Ov Tryz.prog 82 := XL (f := 82) (f1 := 111) (hd := by kernel_rfl) (h1 := h_chain_read)
theorem h_tree_Tree_value : JO Tryz.prog 49 := Wx (f := 49) (f1 := 75) (f2 := 81) (f3 := 82) (hd := by kernel_rfl) (h1 := h_slices_Clone_byte_byte) (h2 := h_tree_far) (h3 := h_chain_Get)
theorem h_tree_Tree_Get : Ke Tryz.prog 20 := Zm (f := 20) (f1 := 39) (f2 := 47) (f3 := 48) (f4 := 49) (hd := by kernel_rfl) (h1 := h_tree_Tree_fits) (h2 := h_tree_Tree_level) (h3 := h_node_Find) (h4 := h_tree_Tree_value)
theorem h_slices_Delete_byte_byte : JN RBs Tryz.prog 88 := Qa (f := 88) (hd := by kernel_rfl)
theorem h_node_joined_byte : GF RBs Tryz.prog 137 := SB (f := 137) (hd := by kernel_rfl)
theorem h_node_joined_int : GF Bf Tryz.prog 138 := TN (f := 138) (hd := by kernel_rfl)
theorem h_node_Join : Rp Tryz.prog 112 := Ze (f := 112) (f1 := 137) (f2 := 130) (f3 := 138) (hd := by kernel_rfl) (h1 := h_node_joined_byte) (h2 := h_node_own) (h3 := h_node_joined_int)
theorem h_slices_Delete_int_int : JN Bf Tryz.prog 113 := SK (f := 113) (hd := by kernel_rfl)
theorem h_tree_Tree_mend : Ph Tryz.prog 89 := XE (f := 89) (f1 := 78) (f2 := 112) (f3 := 76) (f4 := 72) (f5 := 88) (f6 := 113) (hd := by kernel_rfl) (h1 := h_tree_Tree_read) (h2 := h_node_Join) (h3 := h_tree_Tree_save) (h4 := h_pager_Pager_Drop) (h5 := h_slices_Delete_byte_byte) (h6 := h_slices_Delete_int_int)
theorem h_tree_Tree_remove : QF Tryz.prog 56 := Zs (f := 56) (f1 := 47) (f2 := 48) (f3 := 73) (f4 := 88) (f5 := 76) (f7 := 89) (f8 := 77) (hd := by kernel_rfl) (h1 := h_tree_Tree_level) (h2 := h_node_Find) (h3 := h_tree_Tree_lose) (h4 := h_slices_Delete_byte_byte) (h5 := h_tree_Tree_save) (h7 := h_tree_Tree_mend) (h8 := h_tree_Tree_renew)
theorem h_tree_Tree_shrink : K9 Tryz.prog 57 := Ue (f := 57) (f1 := 78) (f2 := 72) (hd := by kernel_rfl) (h1 := h_tree_Tree_read) (h2 := h_pager_Pager_Drop)
theorem h_tree_Tree_Del_1 : O8 Tryz.prog 55 := Yh (f := 55) (f1 := 56) (f2 := 46) (f3 := 57) (hd := by kernel_rfl) (h1 := h_tree_Tree_remove) (h2 := h_tree_Tree_grow) (h3 := h_tree_Tree_shrink)
theorem h_tree_Tree_Del : NL Tryz.prog 27 := Zj (f := 27) (f1 := 39) (f2 := 55) (f3 := 40) (hd := by kernel_rfl) (h1 := h_tree_Tree_fits) (h2 := h_tree_Tree_Del_1) (h3 := h_tree_Tree_change)
theorem h_tree_Tree_Root : LR Tryz.prog 16 := Xb (f := 16) (f1 := 37) (hd := by kernel_rfl) (h1 := h_tree_Tree_none)
theorem h_thimblelaw22_works : Xs Tryz.prog 13 := Uf (f := 13) (f1 := 10) (f2 := 18) (f3 := 15) (f4 := 14) (f5 := 17) (f6 := 20) (f7 := 27) (f8 := 16) (hd := by kernel_rfl) (h1 := h_thimblelaw22_Planted) (h2 := h_tree_Tree_Put_tputb_ok) (h3 := h_tree_Tree_Height) (h4 := h_tree_Tree_Count) (h5 := h_pager_Pager_Free) (h6 := h_tree_Tree_Get) (h7 := h_tree_Tree_Del) (h8 := h_tree_Tree_Root)
theorem h_thimblelaw22_Short : Pa Tryz.prog 19 := Xc (f := 19) (hd := by kernel_rfl)
theorem h_thimblelaw22_wrong : MM Tryz.prog 33 := U5 (f := 33) (hd := by kernel_rfl)
theorem h_thimbleref22_find : IP Tryz.prog 66 := Rt (f := 66) (hd := by kernel_rfl)
theorem h_thimbleref22_Del : Lz Tryz.prog 35 := WS (f := 35) (f1 := 66) (hd := by kernel_rfl) (h1 := h_thimbleref22_find)
theorem h_thimbleref22_Put : OL Tryz.prog 34 := X8 (f := 34) (f1 := 35) (f2 := 66) (hd := by kernel_rfl) (h1 := h_thimbleref22_Del) (h2 := h_thimbleref22_find)
theorem h_device_Device_burn : LU Tryz.prog 84 := Yc (f := 84) (hd := by kernel_rfl)
theorem h_device_Device_Write : MJ Tryz.prog 50 := WI (f := 50) (f1 := 83) (f2 := 84) (hd := by kernel_rfl) (h1 := h_device_Device_ready) (h2 := h_device_Device_burn)
theorem h_device_Device_Sync : Ou Tryz.prog 51 := Yb (f := 51) (f1 := 83) (f2 := 84) (hd := by kernel_rfl) (h1 := h_device_Device_ready) (h2 := h_device_Device_burn)
theorem h_pager_Pager_Flush : Pf Tryz.prog 23 := Xn (f := 23) (f1 := 38) (f2 := 50) (f3 := 51) (hd := by kernel_rfl) (h1 := h_pager_Pager_none) (h2 := h_device_Device_Write) (h3 := h_device_Device_Sync)
theorem h_cache_Cache_Forget : GX Tryz.prog 52 := Ui (f := 52) (f1 := 85) (f2 := 86) (hd := by kernel_rfl) (h1 := h_cache_Cache_none) (h2 := h_cache_Cache_find)
theorem h_pager_Pager_Done : RO Tryz.prog 24 := ZM (f := 24) (f1 := 38) (f2 := 52) (hd := by kernel_rfl) (h1 := h_pager_Pager_none) (h2 := h_cache_Cache_Forget)
theorem h_thimbleref22_Get : OF Tryz.prog 36 := XX (f := 36) (f1 := 66) (hd := by kernel_rfl) (h1 := h_thimbleref22_find)
theorem h_thimblelaw22_Grown : OZ Tryz.prog 11 := X7 (f := 11) (f1 := 19) (f2 := 33) (f3 := 15) (f4 := 22) (f5 := 17) (f6 := 18) (f7 := 34) (f8 := 27) (f9 := 35) (f10 := 23) (f11 := 24) (f12 := 20) (f13 := 36) (f14 := 14) (hd := by kernel_rfl) (h1 := h_thimblelaw22_Short) (h2 := h_thimblelaw22_wrong) (h3 := h_tree_Tree_Height) (h4 := h_chain_Pages) (h5 := h_pager_Pager_Free) (h6 := h_tree_Tree_Put_tputb_ok) (h7 := h_thimbleref22_Put) (h8 := h_tree_Tree_Del) (h9 := h_thimbleref22_Del) (h10 := h_pager_Pager_Flush) (h11 := h_pager_Pager_Done) (h12 := h_tree_Tree_Get) (h13 := h_thimbleref22_Get) (h14 := h_tree_Tree_Count)
theorem own : ownKnob Tryz.prog.godebug = none := by kernel_rfl
theorem laidOut : laidOutB Tryz.prog = true := by kernel_rfl

set_option maxRecDepth 100000 in
theorem contract (H : Type) (enc : TypeId × Value → H) (W : World) (base : Nat) (args : Array Value) (ds gs : List (DataW H)) (before : List MemPlace)
    (hval : ∀ (j : Nat) t v, Tryz.f4.params[j]? = some t → args[j]? = some v → Value.okWide Tryz.prog W .any base t v)
    (hW : DataW.Whole enc Tryz.prog Tryz.f4.params.toList Rows.treeHighSpec.vars false W args.toList ds gs before)
    (hwt : (DataW.weightsEach Tryz.prog (Tryz.f4.params.toList ++ Rows.treeHighSpec.plain.varTypes Tryz.prog) (ds ++ gs)).all (· ≤ reachBytes) = true) :
    Calls Tryz.prog 4 args W fun e W' => ∃ v, e = .returned v ∧ Rows.treeHighSpec.post enc Tryz.prog Tryz.f4 false true false false W args v W' := by
  have hW' := hW
  obtain ⟨p, q, hA0, hV, rfl, hfz, hnd⟩ := hW
  have hA : DataW.TrodAll enc Tryz.prog W 0 (fun _ => true) true Tryz.f4.params.toList args.toList ds p := hA0
  rw [Tryz.params4] at hA hval hwt
  obtain ⟨v0, vs0, d0, ds0, p0, q0, hargs, rfl, rfl, h0, r0⟩ := trodAll_cons hA
  obtain ⟨rfl, rfl, rfl⟩ := trodAll_nil r0
  obtain rfl : args = #[v0] := by cases args; simp_all
  obtain ⟨rfl, rfl⟩ := trodVars_none hV
  obtain ⟨ax, hax⟩ := V3 (sz := 3) Tryz.underlying22 (by kernel_rfl) (by omega) (of_decide_eq_true (by kernel_rfl)) (Aa4 (ti := 3) (tb := 5) (ts := 37) Tryz.underlying54 (by kernel_rfl) rfl rfl rfl (by kernel_rfl) (by kernel_rfl) (by kernel_rfl) Tryz.underlying3 Tryz.underlying5 Tryz.underlying37 (of_decide_eq_true (by kernel_rfl))) (hval 0 22 v0 rfl rfl) h0 (SL (j := 0) hwt rfl rfl)
  exact UN laidOut (by kernel_rfl) hW' rfl rfl (by kernel_rfl) Tryz.underlying4 (treeHigh (f := 4) (f1 := 13) (f2 := 10) (f3 := 11) (f4 := 14) (f5 := 15) (f6 := 16) (hd := by kernel_rfl) (h1 := h_thimblelaw22_works) (h2 := h_thimblelaw22_Planted) (h3 := h_thimblelaw22_Grown) (h4 := h_tree_Tree_Count) (h5 := h_tree_Tree_Height) (h6 := h_tree_Tree_Root) (d := hw W) (hw := hax))

set_option maxRecDepth 100000 in
theorem lifted (os : Os) (started : os.Started) (H : Type) (enc : TypeId × Value → H) :
    ReturnsInHanded {} Tryz.checked os 4 .any (Rows.treeHighSpec.pre6 enc Tryz.prog Tryz.f4 Rows.treeHighRow.domain false) (Rows.treeHighSpec.post enc Tryz.prog Tryz.f4 false true false false) := by
  refine returnsInHanded_of_change_sized (C := Tryz.checked) own started (by kernel_rfl) Tryz.func4
    (ChangeSpec.witness6 (enc := enc) (C := Tryz.checked) false ⟨#[], #[.slice none 0 0], []⟩ 8 (by kernel_rfl) (by kernel_rfl) (by kernel_rfl) (by kernel_rfl)) ?_
  intro W base args ds gs before hval hW _ hwt _
  exact contract H enc W base args ds gs before hval hW hwt

theorem proved : Rows.TreeHighSaid :=
  OpenClaim.holds_of_wide 4 Tryz.f4 rfl rfl rfl rfl rfl rfl rfl ⟨rfl, rfl, rfl, rfl, rfl⟩ rfl rfl rfl rfl rfl (by kernel_rfl) Tryz.func4 (by kernel_rfl)
    (of_decide_eq_true (by kernel_rfl)) (by unfold Func.isWrapper; first | (rw [if_pos (by decide +kernel)]; kernel_rfl) | (rw [if_neg (by decide +kernel)]; exact ⟨rfl, rfl⟩))
    (fun os started H enc _ => lifted os started H enc)
end Go.Proofs.YtpkcbopokjffhaaGreat.treeHigh
