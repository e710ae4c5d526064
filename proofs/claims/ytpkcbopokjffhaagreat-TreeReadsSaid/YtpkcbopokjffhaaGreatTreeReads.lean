/-
  'thimblelaw22.TreeReads' returns true for every row of calls and every row of bytes, and leaves them as they are: no condition.
-/
import Derived.Test.YtpkcbopokjffhaaGreatRows
import Derived.Test.YtpkcbopokjffhaaGreatPqH
namespace Go.Proofs.YtpkcbopokjffhaaGreat.treeReads
open Go Go.Gk Go.Gk.Dev Go.Gk.Cch Go.Gk.Pgr Go.Gk.Chn Go.Gk.Tre Go.Gk.Node Go.ChangeShapes Go.WideShapes Go.ChangeAt Go.RowKit
theorem h_device_New : ME Tryz.prog 60 := ZN (f := 60) (hd := by kernel_rfl)
theorem h_thimbleref15_New : UP Tryz.prog 61 := Aad (f := 61) (hd := by kernel_rfl)
theorem h_device_Device_Size : Hr Tryz.prog 93 := XK (f := 93) (hd := by kernel_rfl)
theorem h_cache_New : Ji Tryz.prog 62 := ZX (f := 62) (f1 := 93) (hd := by kernel_rfl) (h1 := h_device_Device_Size)
theorem h_thimbleref18_New : UZ Tryz.prog 63 := AaA (f := 63) (hd := by kernel_rfl)
theorem h_cache_Cache_none : Ho Tryz.prog 85 := XI (f := 85) (hd := by kernel_rfl)
theorem h_cache_Cache_Held : I5 Tryz.prog 94 := Yk (f := 94) (f1 := 85) (hd := by kernel_rfl) (h1 := h_cache_Cache_none)
theorem h_pager_Pager_kind : Je Tryz.prog 95 := ZL (f := 95) (hd := by kernel_rfl)
theorem h_pager_New : RM Tryz.prog 64 := ZU (f := 64) (f1 := 93) (f2 := 94) (f3 := 95) (hd := by kernel_rfl) (h1 := h_device_Device_Size) (h2 := h_cache_Cache_Held) (h3 := h_pager_Pager_kind)
theorem h_thimbleref16_Region : UU Tryz.prog 96 := AaV (f := 96) (hd := by kernel_rfl)
theorem h_thimbleref19_New : Uj Tryz.prog 65 := Aat (f := 65) (f1 := 96) (f2 := 97) (hd := by kernel_rfl) (h1 := h_thimbleref16_Region)
theorem h_thimblelaw21_Made : M9 Tryz.prog 32 := VV (f := 32) (f1 := 60) (f2 := 61) (f3 := 62) (f4 := 63) (f5 := 64) (f6 := 65) (hd := by kernel_rfl) (h1 := h_device_New) (h2 := h_thimbleref15_New) (h3 := h_cache_New) (h4 := h_thimbleref18_New) (h5 := h_pager_New) (h6 := h_thimbleref19_New)
theorem h_pager_Pager_none : Er Tryz.prog 38 := WX (f := 38) (hd := by kernel_rfl)
theorem h_slices_Clone_int_int : DZ Bf 8 Tryz.prog 53 := Qp (f := 53) (hd := by kernel_rfl)
theorem h_maps_Clone_map_int_byte_int_byte : Hk Tryz.prog 54 := SD (f := 54) (t1 := 68) (hd := by kernel_rfl)
theorem h_pager_Pager_Mark : Kc Tryz.prog 26 := Y6 (f := 26) (f1 := 38) (f2 := 53) (f3 := 54) (hd := by kernel_rfl) (h1 := h_pager_Pager_none) (h2 := h_slices_Clone_int_int) (h3 := h_maps_Clone_map_int_byte_int_byte)
theorem h_tree_New : Re Tryz.prog 30 := Y5 (f := 30) (f1 := 26) (hd := by kernel_rfl) (h1 := h_pager_Pager_Mark)
theorem h_thimblelaw22_Planted : Ig Tryz.prog 10 := U6 (f := 10) (f1 := 32) (f2 := 30) (hd := by kernel_rfl) (h1 := h_thimblelaw21_Made) (h2 := h_tree_New)
theorem h_tree_Tree_none : Hy Tryz.prog 37 := XZ (f := 37) (hd := by kernel_rfl)
theorem h_tree_Tree_fits : Lm Tryz.prog 39 := Z3 (f := 39) (f1 := 37) (hd := by kernel_rfl) (h1 := h_tree_Tree_none)
theorem h_chain_Pages : E7 Tryz.prog 22 := XO (f := 22) (hd := by kernel_rfl)
theorem h_pager_Pager_Drop : Gm Tryz.prog 72 := Ze (f := 72) (f1 := 38) (f2 := 95) (hd := by kernel_rfl) (h1 := h_pager_Pager_none) (h2 := h_pager_Pager_kind)
theorem h_chain_taken_1 : Rx Tryz.prog 125 := ZC (f := 125) (f3 := 72) (hd := by kernel_rfl) (h := h_pager_Pager_Drop)
theorem h_slices_Index_int_int : OU Tryz.prog 101 := XU (f := 101) (hd := by kernel_rfl)
theorem h_pager_Pager_Take : Go.Gk.Pgr.FQ Tryz.prog 71 := OY (f := 71) (f1 := 38) (f2 := 101) (hd := by kernel_rfl) (h1 := h_pager_Pager_none) (h2 := h_slices_Index_int_int)
theorem h_chain_taken : OA Tryz.prog 98 := X4 (f := 98) (f1 := 125) (f2 := 71) (hd := by kernel_rfl) (h0 := h_chain_taken_1) (h1 := h_pager_Pager_Take)
theorem h_slices_Clone_byte_byte : DZ AN 1 Tryz.prog 75 := On (f := 75) (hd := by kernel_rfl)
theorem h_pager_Pager_Put : N9 Tryz.prog 70 := AaN (f := 70) (f1 := 38) (f2 := 95) (f3 := 75) (hd := by kernel_rfl) (h1 := h_pager_Pager_none) (h2 := h_pager_Pager_kind) (h3 := h_slices_Clone_byte_byte)
theorem h_chain_Put_cputb_ok : LF Tryz.prog 68 := Ya (f := 68) (f1 := 22) (f2 := 98) (f3 := 70) (hd := by kernel_rfl) (h1 := h_chain_Pages) (h2 := h_chain_taken) (h3 := h_pager_Pager_Put)
theorem h_tree_Tree_cell_tcellb_ok : JC Tryz.prog 42 := VT (f := 42) (f1 := 68) (hd := by kernel_rfl) (h1 := h_chain_Put_cputb_ok)
theorem h_bytes_Compare : Ic Tryz.prog 79 := Uw (f := 79) (hd := by kernel_rfl)
theorem h_slices_IndexFunc_byte_byte : E6 Tryz.prog 157 := J3 (f := 157) (hd := by kernel_rfl)
theorem h_slices_ContainsFunc_byte_byte : Ed Tryz.prog 145 := IF (f := 145) (f1 := 157) (hd := by kernel_rfl) (h1 := h_slices_IndexFunc_byte_byte)
theorem h_slices_IndexFunc_int_int : E6 Tryz.prog 158 := Mj (f := 158) (hd := by kernel_rfl)
theorem h_slices_ContainsFunc_int_int : Ed Tryz.prog 147 := JI (f := 147) (f1 := 158) (hd := by kernel_rfl) (h1 := h_slices_IndexFunc_int_int)
theorem h_node_sound : LA Tryz.prog 126 := Xz (f := 126) (f1 := 79) (f2 := 145) (f3 := 146) (f4 := 147) (f5 := 148) (hd := by kernel_rfl) (h1 := h_bytes_Compare) (h2 := h_slices_ContainsFunc_byte_byte) (h3 := by kernel_rfl) (h4 := h_slices_ContainsFunc_int_int) (h5 := by kernel_rfl)
theorem h_node_Node_cell : NZ Tryz.prog 128 := ZP (f := 128) (hd := by kernel_rfl)
theorem h_node_Size : Ld Tryz.prog 105 := Zo (f := 105) (fc := 128) (hd := by kernel_rfl) (hc := h_node_Node_cell)
theorem h_node_Right : I0 Tryz.prog 99 := MG (f := 99) (f1 := 126) (f2 := 105) (hd := by kernel_rfl) (h1 := h_node_sound) (h2 := h_node_Size)
theorem h_node_page : NM Tryz.prog 100 := Zq (f := 100) (hd := by kernel_rfl)
theorem h_node_Bytes : LV Tryz.prog 69 := XX (f := 69) (f1 := 99) (f2 := 100) (hd := by kernel_rfl) (h1 := h_node_Right) (h2 := h_node_page)
theorem h_tree_Tree_put : HD Tryz.prog 43 := Yx (f := 43) (f1 := 69) (f2 := 70) (f3 := 71) (f4 := 72) (hd := by kernel_rfl) (h1 := h_node_Bytes) (h2 := h_pager_Pager_Put) (h3 := h_pager_Pager_Take) (h4 := h_pager_Pager_Drop)
theorem h_cache_Cache_find : I7 Tryz.prog 86 := Xh (f := 86) (hd := by kernel_rfl)
theorem h_cache_Cache_pinned : KM Tryz.prog 163 := U0 (f := 163) (hd := by kernel_rfl)
theorem h_cache_Cache_sweep : MT Tryz.prog 160 := WV (f := 160) (f1 := 163) (hd := by kernel_rfl) (h1 := h_cache_Cache_pinned)
theorem h_cache_Cache_room : ON Tryz.prog 151 := Xg (f := 151) (f1 := 160) (hd := by kernel_rfl) (h1 := h_cache_Cache_sweep)
theorem h_device_Device_ready : HV Tryz.prog 83 := WQ (f := 83) (f1 := 93) (hd := by kernel_rfl) (h1 := h_device_Device_Size)
theorem h_device_Device_newest_iter_ok : Sv Tryz.prog 161 := ZG (f := 161) (f1 := 164) (hd := by kernel_rfl) (h := by kernel_rfl)
theorem h_device_Device_Read : OO Tryz.prog 152 := XV (f := 152) (f1 := 83) (f2 := 161) (hd := by kernel_rfl) (h1 := h_device_Device_ready) (h2 := h_device_Device_newest_iter_ok)
theorem h_cache_Cache_Get : J8 Tryz.prog 133 := Zi (f := 133) (f1 := 85) (f2 := 93) (f3 := 86) (f4 := 151) (f5 := 152) (hd := by kernel_rfl) (h1 := h_cache_Cache_none) (h2 := h_device_Device_Size) (h3 := h_cache_Cache_find) (h4 := h_cache_Cache_room) (h5 := h_device_Device_Read)
theorem h_cache_Cache_Leave : HZ Tryz.prog 134 := VB (f := 134) (f1 := 85) (f2 := 86) (hd := by kernel_rfl) (h1 := h_cache_Cache_none) (h2 := h_cache_Cache_find)
theorem h_pager_Pager_Get : Fx Tryz.prog 108 := ZY (f := 108) (f1 := 38) (f2 := 95) (f3 := 75) (f4 := 133) (f5 := 134) (hd := by kernel_rfl) (h1 := h_pager_Pager_none) (h2 := h_pager_Pager_kind) (h3 := h_slices_Clone_byte_byte) (h4 := h_cache_Cache_Get) (h5 := h_cache_Cache_Leave)
theorem h_node_take : Go.Gk.Node.FQ Tryz.prog 162 := OY (f := 162) (f1 := 75) (hd := by kernel_rfl) (h1 := h_slices_Clone_byte_byte)
theorem h_node_kid : Uk Tryz.prog 153 := Aap (f := 153) (f1 := 162) (hd := by kernel_rfl) (h1 := h_node_take)
theorem h_node_piece : Ph Tryz.prog 154 := Xw (f := 154) (f1 := 162) (hd := by kernel_rfl) (h1 := h_node_take)
theorem h_node_parse : O5 Tryz.prog 135 := Xc (f := 135) (f1 := 153) (f2 := 154) (hd := by kernel_rfl) (h1 := h_node_kid) (h2 := h_node_piece)
theorem h_bytes_Equal : LU Tryz.prog 80 := Xv (f := 80) (hd := by kernel_rfl)
theorem h_node_Read : QS Tryz.prog 109 := Zy (f := 109) (f1 := 135) (f2 := 99) (f3 := 100) (f4 := 80) (hd := by kernel_rfl) (h1 := h_node_parse) (h2 := h_node_Right) (h3 := h_node_page) (h4 := h_bytes_Equal)
theorem h_tree_Tree_read : IT Tryz.prog 78 := Xf (f := 78) (f1 := 108) (f2 := 109) (hd := by kernel_rfl) (h1 := h_pager_Pager_Get) (h2 := h_node_Read)
theorem h_tree_Tree_level : HP Tryz.prog 47 := We (f := 47) (f1 := 78) (hd := by kernel_rfl) (h1 := h_tree_Tree_read)
theorem h_node_Find : IU Tryz.prog 48 findD := Z1 (f := 48) (f1 := 79) (f2 := 80) (hd := by kernel_rfl) (h1 := h_bytes_Compare) (h2 := h_bytes_Equal)
theorem h_tree_far : QI Tryz.prog 81 := AaY (f := 81) (hd := by kernel_rfl)
theorem h_chain_pages_1_p1_ok : Yb Tryz.prog 155 := Abq (f := 155) (f2 := 22) (f3 := 108) (hd := by kernel_rfl) (h1 := h_chain_Pages) (h2 := h_pager_Pager_Get)
theorem h_chain_pages_cpages_ok : Nw Tryz.prog 136 := Wf (f := 136) (f1 := 155) (hd := by kernel_rfl) (h := h_chain_pages_1_p1_ok)
theorem h_chain_read : LL Tryz.prog 111 := XT (f := 111) (f1 := 136) (f2 := 22) (hd := by kernel_rfl) (h1 := h_chain_pages_cpages_ok) (h2 := h_chain_Pages)
theorem h_chain_Drop : LI Tryz.prog 102 := W8 (f := 102) (f1 := 111) (f2 := 72) (hd := by kernel_rfl) (h1 := h_chain_read) (h2 := h_pager_Pager_Drop)
theorem h_tree_Tree_lose : LZ Tryz.prog 73 := Xb (f := 73) (f1 := 81) (f2 := 102) (hd := by kernel_rfl) (h1 := h_tree_far) (h2 := h_chain_Drop)
theorem h_slices_Insert_byte_byte : JE RBs Tryz.prog 74 := Qk (f := 74) (f1 := 104) (hd := by kernel_rfl)
theorem h_node_Split_1 : Nq Tryz.prog 129 := Vw (f := 129) (f1 := 128) (hd := by kernel_rfl) (h1 := h_node_Node_cell)
theorem h_node_own : Qt Tryz.prog 130 := AaH (f := 130) (f1 := 75) (hd := by kernel_rfl) (h1 := h_slices_Clone_byte_byte)
theorem h_node_Split : OK Tryz.prog 106 := Xl (f := 106) (f1 := 126) (f2 := 129) (f3 := 130) (f4 := 75) (f5 := 53) (hd := by kernel_rfl) (h1 := h_node_sound) (h2 := h_node_Split_1) (h3 := h_node_own) (h4 := h_slices_Clone_byte_byte) (h5 := h_slices_Clone_int_int)
theorem h_tree_Tree_save : Ht Tryz.prog 76 := X0 (f := 76) (f1 := 99) (f2 := 43) (f3 := 105) (f4 := 106) (hd := by kernel_rfl) (h1 := h_node_Right) (h2 := h_tree_Tree_put) (h3 := h_node_Size) (h4 := h_node_Split)
theorem h_slices_Insert_int_int : JE Bf Tryz.prog 107 := SQ (f := 107) (f1 := 132) (hd := by kernel_rfl)
theorem h_tree_Tree_renew : JO Tryz.prog 77 := V7 (f := 77) (f1 := 105) (f2 := 74) (f3 := 107) (f4 := 76) (hd := by kernel_rfl) (h1 := h_node_Size) (h2 := h_slices_Insert_byte_byte) (h3 := h_slices_Insert_int_int) (h4 := h_tree_Tree_save)
theorem h_tree_Tree_insert : NV Tryz.prog 44 := ZI (f := 44) (f1 := 47) (f2 := 48) (f3 := 73) (f4 := 75) (f5 := 74) (f6 := 76) (f8 := 77) (hd := by kernel_rfl) (h1 := h_tree_Tree_level) (h2 := h_node_Find) (h3 := h_tree_Tree_lose) (h4 := h_slices_Clone_byte_byte) (h5 := h_slices_Insert_byte_byte) (h6 := h_tree_Tree_save) (h8 := h_tree_Tree_renew)
theorem h_tree_truth : Pl Tryz.prog 45 := Yu (f := 45) (hd := by kernel_rfl)
theorem h_tree_Tree_grow : I9 Tryz.prog 46 := Xm (f := 46) (f1 := 43) (hd := by kernel_rfl) (h1 := h_tree_Tree_put)
theorem h_tree_Tree_Put_1_tput1b_ok : M4 Tryz.prog 41 := VK (f := 41) (f1 := 42) (f2 := 43) (f3 := 44) (f4 := 45) (f5 := 46) (hd := by kernel_rfl) (h1 := h_tree_Tree_cell_tcellb_ok) (h2 := h_tree_Tree_put) (h3 := h_tree_Tree_insert) (h4 := h_tree_truth) (h5 := h_tree_Tree_grow)
theorem h_pager_Pager_Back : Kv Tryz.prog 28 := Zm (f := 28) (f1 := 38) (f2 := 53) (f3 := 54) (hd := by kernel_rfl) (h1 := h_pager_Pager_none) (h2 := h_slices_Clone_int_int) (h3 := h_maps_Clone_map_int_byte_int_byte)
theorem h_tree_Tree_change_1 : Ss Tryz.prog 67 := Zt (f := 67) (f3 := 28) (hd := by kernel_rfl) (h := h_pager_Pager_Back)
theorem h_tree_Tree_change : Im Tryz.prog 40 := Ud (f := 40) (f1 := 26) (f2 := 67) (hd := by kernel_rfl) (h1 := h_pager_Pager_Mark) (h2 := h_tree_Tree_change_1)
theorem h_tree_Tree_Put_tputb_ok : Gi Tryz.prog 18 := W9 (f := 18) (f1 := 39) (f2 := 41) (f3 := 40) (hd := by kernel_rfl) (h1 := h_tree_Tree_fits) (h2 := h_tree_Tree_Put_1_tput1b_ok) (h3 := h_tree_Tree_change)
theorem h_tree_Tree_Height : GW Tryz.prog 15 := U8 (f := 15) (f1 := 37) (hd := by kernel_rfl) (h1 := h_tree_Tree_none)
theorem h_tree_Tree_Count : Jg Tryz.prog 14 := Vx (f := 14) (f1 := 37) (hd := by kernel_rfl) (h1 := h_tree_Tree_none)
theorem h_pager_Pager_Free : NU Tryz.prog 17 := ZR (f := 17) (f1 := 38) (hd := by kernel_rfl) (h1 := h_pager_Pager_none)
theorem h_chain_Get : OT Tryz.prog 82 := WZ (f := 82) (f1 := 111) (hd := by kernel_rfl) (h1 := h_chain_read)
theorem h_tree_Tree_value : JH Tryz.prog 49 := VO (f := 49) (f1 := 75) (f2 := 81) (f3 := 82) (hd := by kernel_rfl) (h1 := h_slices_Clone_byte_byte) (h2 := h_tree_far) (h3 := h_chain_Get)
theorem h_tree_Tree_Get : Jd Tryz.prog 20 := Y4 (f := 20) (f1 := 39) (f2 := 47) (f3 := 48) (f4 := 49) (hd := by kernel_rfl) (h1 := h_tree_Tree_fits) (h2 := h_tree_Tree_level) (h3 := h_node_Find) (h4 := h_tree_Tree_value)
theorem h_slices_Delete_byte_byte : JJ RBs Tryz.prog 88 := Qj (f := 88) (hd := by kernel_rfl)
theorem h_node_joined_byte : GH RBs Tryz.prog 137 := SV (f := 137) (hd := by kernel_rfl)
theorem h_node_joined_int : GH Bf Tryz.prog 138 := Ve (f := 138) (hd := by kernel_rfl)
theorem h_node_Join : Ry Tryz.prog 112 := Y0 (f := 112) (f1 := 137) (f2 := 130) (f3 := 138) (hd := by kernel_rfl) (h1 := h_node_joined_byte) (h2 := h_node_own) (h3 := h_node_joined_int)
theorem h_slices_Delete_int_int : JJ Bf Tryz.prog 113 := S2 (f := 113) (hd := by kernel_rfl)
theorem h_tree_Tree_mend : O3 Tryz.prog 89 := W6 (f := 89) (f1 := 78) (f2 := 112) (f3 := 76) (f4 := 72) (f5 := 88) (f6 := 113) (hd := by kernel_rfl) (h1 := h_tree_Tree_read) (h2 := h_node_Join) (h3 := h_tree_Tree_save) (h4 := h_pager_Pager_Drop) (h5 := h_slices_Delete_byte_byte) (h6 := h_slices_Delete_int_int)
theorem h_tree_Tree_remove : Sq Tryz.prog 56 := ZJ (f := 56) (f1 := 47) (f2 := 48) (f3 := 73) (f4 := 88) (f5 := 76) (f7 := 89) (f8 := 77) (hd := by kernel_rfl) (h1 := h_tree_Tree_level) (h2 := h_node_Find) (h3 := h_tree_Tree_lose) (h4 := h_slices_Delete_byte_byte) (h5 := h_tree_Tree_save) (h7 := h_tree_Tree_mend) (h8 := h_tree_Tree_renew)
theorem h_tree_Tree_shrink : Kl Tryz.prog 57 := UJ (f := 57) (f1 := 78) (f2 := 72) (hd := by kernel_rfl) (h1 := h_tree_Tree_read) (h2 := h_pager_Pager_Drop)
theorem h_tree_Tree_Del_1 : OP Tryz.prog 55 := W2 (f := 55) (f1 := 56) (f2 := 46) (f3 := 57) (hd := by kernel_rfl) (h1 := h_tree_Tree_remove) (h2 := h_tree_Tree_grow) (h3 := h_tree_Tree_shrink)
theorem h_tree_Tree_Del : NO Tryz.prog 27 := Y9 (f := 27) (f1 := 39) (f2 := 55) (f3 := 40) (hd := by kernel_rfl) (h1 := h_tree_Tree_fits) (h2 := h_tree_Tree_Del_1) (h3 := h_tree_Tree_change)
theorem h_tree_Tree_Root : OG Tryz.prog 16 := XR (f := 16) (f1 := 37) (hd := by kernel_rfl) (h1 := h_tree_Tree_none)
theorem h_thimblelaw22_works : X6 Tryz.prog 13 := Ur (f := 13) (f1 := 10) (f2 := 18) (f3 := 15) (f4 := 14) (f5 := 17) (f6 := 20) (f7 := 27) (f8 := 16) (hd := by kernel_rfl) (h1 := h_thimblelaw22_Planted) (h2 := h_tree_Tree_Put_tputb_ok) (h3 := h_tree_Tree_Height) (h4 := h_tree_Tree_Count) (h5 := h_pager_Pager_Free) (h6 := h_tree_Tree_Get) (h7 := h_tree_Tree_Del) (h8 := h_tree_Tree_Root)
theorem h_thimblelaw22_Short : Pp Tryz.prog 19 := X7 (f := 19) (hd := by kernel_rfl)
theorem h_thimblelaw22_wrong : Nl Tryz.prog 33 := VH (f := 33) (hd := by kernel_rfl)
theorem h_thimbleref22_find : I3 Tryz.prog 66 := QK (f := 66) (hd := by kernel_rfl)
theorem h_thimbleref22_Del : LW Tryz.prog 35 := Xe (f := 35) (f1 := 66) (hd := by kernel_rfl) (h1 := h_thimbleref22_find)
theorem h_thimbleref22_Put : OQ Tryz.prog 34 := Xr (f := 34) (f1 := 35) (f2 := 66) (hd := by kernel_rfl) (h1 := h_thimbleref22_Del) (h2 := h_thimbleref22_find)
theorem h_device_Device_burn : LK Tryz.prog 84 := XD (f := 84) (hd := by kernel_rfl)
theorem h_device_Device_Write : MX Tryz.prog 50 := WE (f := 50) (f1 := 83) (f2 := 84) (hd := by kernel_rfl) (h1 := h_device_Device_ready) (h2 := h_device_Device_burn)
theorem h_device_Device_Sync : Pf Tryz.prog 51 := Xs (f := 51) (f1 := 83) (f2 := 84) (hd := by kernel_rfl) (h1 := h_device_Device_ready) (h2 := h_device_Device_burn)
theorem h_pager_Pager_Flush : Pb Tryz.prog 23 := W4 (f := 23) (f1 := 38) (f2 := 50) (f3 := 51) (hd := by kernel_rfl) (h1 := h_pager_Pager_none) (h2 := h_device_Device_Write) (h3 := h_device_Device_Sync)
theorem h_cache_Cache_Forget : GZ Tryz.prog 52 := Ul (f := 52) (f1 := 85) (f2 := 86) (hd := by kernel_rfl) (h1 := h_cache_Cache_none) (h2 := h_cache_Cache_find)
theorem h_pager_Pager_Done : RO Tryz.prog 24 := Zp (f := 24) (f1 := 38) (f2 := 52) (hd := by kernel_rfl) (h1 := h_pager_Pager_none) (h2 := h_cache_Cache_Forget)
theorem h_thimbleref22_Get : Po Tryz.prog 36 := Xo (f := 36) (f1 := 66) (hd := by kernel_rfl) (h1 := h_thimbleref22_find)
theorem h_thimblelaw22_Grown : O7 Tryz.prog 11 := Xp (f := 11) (f1 := 19) (f2 := 33) (f3 := 15) (f4 := 22) (f5 := 17) (f6 := 18) (f7 := 34) (f8 := 27) (f9 := 35) (f10 := 23) (f11 := 24) (f12 := 20) (f13 := 36) (f14 := 14) (hd := by kernel_rfl) (h1 := h_thimblelaw22_Short) (h2 := h_thimblelaw22_wrong) (h3 := h_tree_Tree_Height) (h4 := h_chain_Pages) (h5 := h_pager_Pager_Free) (h6 := h_tree_Tree_Put_tputb_ok) (h7 := h_thimbleref22_Put) (h8 := h_tree_Tree_Del) (h9 := h_thimbleref22_Del) (h10 := h_pager_Pager_Flush) (h11 := h_pager_Pager_Done) (h12 := h_tree_Tree_Get) (h13 := h_thimbleref22_Get) (h14 := h_tree_Tree_Count)
theorem h_pager_Pager_Touched : Kg Tryz.prog 21 := U9 (f := 21) (f1 := 38) (hd := by kernel_rfl) (h1 := h_pager_Pager_none)
theorem own : ownKnob Tryz.prog.godebug = none := by kernel_rfl
theorem laidOut : laidOutB Tryz.prog = true := by kernel_rfl

set_option maxRecDepth 100000 in
theorem contract (H : Type) (enc : TypeId × Value → H) (W : World) (base : Nat) (args : Array Value) (ds gs : List (DataW H)) (before : List MemPlace)
    (hval : ∀ (j : Nat) t v, Tryz.f6.params[j]? = some t → args[j]? = some v → Value.okWide Tryz.prog W .any base t v)
    (hW : DataW.Whole enc Tryz.prog Tryz.f6.params.toList Rows.treeReadsSpec.vars false W args.toList ds gs before)
    (hwt : (DataW.weightsEach Tryz.prog (Tryz.f6.params.toList ++ Rows.treeReadsSpec.plain.varTypes Tryz.prog) (ds ++ gs)).all (· ≤ reachBytes) = true) :
    Calls Tryz.prog 6 args W fun e W' => ∃ v, e = .returned v ∧ Rows.treeReadsSpec.post enc Tryz.prog Tryz.f6 false true false false W args v W' := by
  have hW' := hW
  obtain ⟨p, q, hA0, hV, rfl, hfz, hnd⟩ := hW
  have hA : DataW.TrodAll enc Tryz.prog W 0 (fun _ => true) true Tryz.f6.params.toList args.toList ds p := hA0
  rw [Tryz.params6] at hA hval hwt
  obtain ⟨v0, vs0, d0, ds0, p0, q0, hargs, rfl, rfl, h0, r0⟩ := trodAll_cons hA
  obtain ⟨v1, vs1, d1, ds1, p1, q1, rfl, rfl, rfl, h1, r1⟩ := trodAll_cons r0
  obtain ⟨rfl, rfl, rfl⟩ := trodAll_nil r1
  obtain rfl : args = #[v0, v1] := by cases args; simp_all
  obtain ⟨rfl, rfl⟩ := trodVars_none hV
  obtain ⟨ax, hax⟩ := P8 (sz := 3) Tryz.underlying22 (by kernel_rfl) (by omega) (of_decide_eq_true (by kernel_rfl)) (Abd (ti := 3) (tb := 5) (ts := 37) Tryz.underlying54 (by kernel_rfl) rfl rfl rfl (by kernel_rfl) (by kernel_rfl) (by kernel_rfl) Tryz.underlying3 Tryz.underlying5 Tryz.underlying37 (of_decide_eq_true (by kernel_rfl))) (hval 0 22 v0 rfl rfl) h0 (Mn (j := 0) hwt rfl rfl)
  obtain ⟨kx, hkx⟩ := P8 (sz := 1) Tryz.underlying37 (by kernel_rfl) (by omega) (of_decide_eq_true (by kernel_rfl)) (Pk Tryz.underlying5) (hval 1 37 v1 rfl rfl) h1 (Mn (j := 1) hwt rfl rfl)
  exact UM laidOut (by kernel_rfl) hW' rfl rfl (by kernel_rfl) Tryz.underlying4 (treeReads (f := 6) (f1 := 13) (f2 := 10) (f3 := 11) (f4 := 21) (f5 := 20) (f6 := 15) (f7 := 22) (hd := by kernel_rfl) (h1 := h_thimblelaw22_works) (h2 := h_thimblelaw22_Planted) (h3 := h_thimblelaw22_Grown) (h4 := h_pager_Pager_Touched) (h5 := h_tree_Tree_Get) (h6 := h_tree_Tree_Height) (h7 := h_chain_Pages) (d := hw W) (hw := hax) (hk := hkx))

set_option maxRecDepth 100000 in
theorem lifted (os : Os) (started : os.Started) (H : Type) (enc : TypeId × Value → H) :
    ReturnsInHanded {} Tryz.checked os 6 .any (Rows.treeReadsSpec.pre6 enc Tryz.prog Tryz.f6 Rows.treeReadsRow.domain false) (Rows.treeReadsSpec.post enc Tryz.prog Tryz.f6 false true false false) := by
  refine returnsInHanded_of_change_sized (C := Tryz.checked) own started (by kernel_rfl) Tryz.func6
    (ChangeSpec.witness6 (enc := enc) (C := Tryz.checked) false ⟨#[], #[.slice none 0 0, .slice none 0 0], []⟩ 8 (by kernel_rfl) (by kernel_rfl) (by kernel_rfl) (by kernel_rfl)) ?_
  intro W base args ds gs before hval hW _ hwt _
  exact contract H enc W base args ds gs before hval hW hwt

theorem proved : Rows.TreeReadsSaid :=
  OpenClaim.holds_of_wide 6 Tryz.f6 rfl rfl rfl rfl rfl rfl rfl ⟨rfl, rfl, rfl, rfl, rfl⟩ rfl rfl rfl rfl rfl (by kernel_rfl) Tryz.func6 (by kernel_rfl)
    (of_decide_eq_true (by kernel_rfl)) (by unfold Func.isWrapper; first | (rw [if_pos (by decide +kernel)]; kernel_rfl) | (rw [if_neg (by decide +kernel)]; exact ⟨rfl, rfl⟩))
    (fun os started H enc _ => lifted os started H enc)
end Go.Proofs.YtpkcbopokjffhaaGreat.treeReads
