/-
  'thimblelaw22.TreeOpens' returns true for every two rows of calls, and leaves them as they are: no condition.
-/
import Derived.Test.YtpkcbopokjffhaaGreatRows
import Derived.Test.YtpkcbopokjffhaaGreatPoH
namespace Go.Proofs.YtpkcbopokjffhaaGreat.treeOpens
open Go Go.Gk Go.Gk.Dev Go.Gk.Cch Go.Gk.Pgr Go.Gk.Chn Go.Gk.Tre Go.Gk.Node Go.ChangeShapes Go.WideShapes Go.ChangeAt Go.RowKit
theorem h_device_New : MT Tryz.prog 60 := Zg (f := 60) (hd := by kernel_rfl)
theorem h_thimbleref15_New : Uh Tryz.prog 61 := Aah (f := 61) (hd := by kernel_rfl)
theorem h_device_Device_Size : HE Tryz.prog 93 := Xk (f := 93) (hd := by kernel_rfl)
theorem h_cache_New : JN Tryz.prog 62 := Z9 (f := 62) (f1 := 93) (hd := by kernel_rfl) (h1 := h_device_Device_Size)
theorem h_thimbleref18_New : Ux Tryz.prog 63 := Aag (f := 63) (hd := by kernel_rfl)
theorem h_cache_Cache_none : HK Tryz.prog 85 := Xg (f := 85) (hd := by kernel_rfl)
theorem h_cache_Cache_Held : I9 Tryz.prog 94 := Xo (f := 94) (f1 := 85) (hd := by kernel_rfl) (h1 := h_cache_Cache_none)
theorem h_pager_Pager_kind : I4 Tryz.prog 95 := Zs (f := 95) (hd := by kernel_rfl)
theorem h_pager_New : R4 Tryz.prog 64 := Z4 (f := 64) (f1 := 93) (f2 := 94) (f3 := 95) (hd := by kernel_rfl) (h1 := h_device_Device_Size) (h2 := h_cache_Cache_Held) (h3 := h_pager_Pager_kind)
theorem h_thimbleref16_Region : UK Tryz.prog 96 := AaK (f := 96) (hd := by kernel_rfl)
theorem h_thimbleref19_New : Uf Tryz.prog 65 := AaD (f := 65) (f1 := 96) (f2 := 97) (hd := by kernel_rfl) (h1 := h_thimbleref16_Region)
theorem h_thimblelaw21_Made : M8 Tryz.prog 32 := VG (f := 32) (f1 := 60) (f2 := 61) (f3 := 62) (f4 := 63) (f5 := 64) (f6 := 65) (hd := by kernel_rfl) (h1 := h_device_New) (h2 := h_thimbleref15_New) (h3 := h_cache_New) (h4 := h_thimbleref18_New) (h5 := h_pager_New) (h6 := h_thimbleref19_New)
theorem h_pager_Pager_none : EN Tryz.prog 38 := X6 (f := 38) (hd := by kernel_rfl)
theorem h_slices_Clone_int_int : DZ Bi 8 Tryz.prog 53 := Qp (f := 53) (hd := by kernel_rfl)
theorem h_maps_Clone_map_int_byte_int_byte : Hu Tryz.prog 54 := S7 (f := 54) (t1 := 68) (hd := by kernel_rfl)
theorem h_pager_Pager_Mark : G4 Tryz.prog 26 := ZU (f := 26) (f1 := 38) (f2 := 53) (f3 := 54) (hd := by kernel_rfl) (h1 := h_pager_Pager_none) (h2 := h_slices_Clone_int_int) (h3 := h_maps_Clone_map_int_byte_int_byte)
theorem h_tree_New : SA Tryz.prog 30 := Zk (f := 30) (f1 := 26) (hd := by kernel_rfl) (h1 := h_pager_Pager_Mark)
theorem h_thimblelaw22_Planted : Ir Tryz.prog 10 := Ui (f := 10) (f1 := 32) (f2 := 30) (hd := by kernel_rfl) (h1 := h_thimblelaw21_Made) (h2 := h_tree_New)
theorem h_tree_Tree_none : HH Tryz.prog 37 := XD (f := 37) (hd := by kernel_rfl)
theorem h_tree_Tree_fits : K3 Tryz.prog 39 := Zq (f := 39) (f1 := 37) (hd := by kernel_rfl) (h1 := h_tree_Tree_none)
theorem h_chain_Pages : FA Tryz.prog 22 := W2 (f := 22) (hd := by kernel_rfl)
theorem h_pager_Pager_Drop : Gt Tryz.prog 72 := ZB (f := 72) (f1 := 38) (f2 := 95) (hd := by kernel_rfl) (h1 := h_pager_Pager_none) (h2 := h_pager_Pager_kind)
theorem h_chain_taken_1 : Rn Tryz.prog 125 := ZY (f := 125) (f3 := 72) (hd := by kernel_rfl) (h := h_pager_Pager_Drop)
theorem h_slices_Index_int_int : O7 Tryz.prog 101 := YB (f := 101) (hd := by kernel_rfl)
theorem h_pager_Pager_Take : Go.Gk.Pgr.FM Tryz.prog 71 := OX (f := 71) (f1 := 38) (f2 := 101) (hd := by kernel_rfl) (h1 := h_pager_Pager_none) (h2 := h_slices_Index_int_int)
theorem h_chain_taken : OU Tryz.prog 98 := W8 (f := 98) (f1 := 125) (f2 := 71) (hd := by kernel_rfl) (h0 := h_chain_taken_1) (h1 := h_pager_Pager_Take)
theorem h_slices_Clone_byte_byte : DZ AP 1 Tryz.prog 75 := N9 (f := 75) (hd := by kernel_rfl)
theorem h_pager_Pager_Put : Oy Tryz.prog 70 := Aak (f := 70) (f1 := 38) (f2 := 95) (f3 := 75) (hd := by kernel_rfl) (h1 := h_pager_Pager_none) (h2 := h_pager_Pager_kind) (h3 := h_slices_Clone_byte_byte)
theorem h_chain_Put_cputb_ok : LG Tryz.prog 68 := Xv (f := 68) (f1 := 22) (f2 := 98) (f3 := 70) (hd := by kernel_rfl) (h1 := h_chain_Pages) (h2 := h_chain_taken) (h3 := h_pager_Pager_Put)
theorem h_tree_Tree_cell_tcellb_ok : JW Tryz.prog 42 := WH (f := 42) (f1 := 68) (hd := by kernel_rfl) (h1 := h_chain_Put_cputb_ok)
theorem h_bytes_Compare : Iw Tryz.prog 79 := Uz (f := 79) (hd := by kernel_rfl)
theorem h_slices_IndexFunc_byte_byte : Fb Tryz.prog 157 := J8 (f := 157) (hd := by kernel_rfl)
theorem h_slices_ContainsFunc_byte_byte : Ee Tryz.prog 145 := IL (f := 145) (f1 := 157) (hd := by kernel_rfl) (h1 := h_slices_IndexFunc_byte_byte)
theorem h_slices_IndexFunc_int_int : Fb Tryz.prog 158 := Mr (f := 158) (hd := by kernel_rfl)
theorem h_slices_ContainsFunc_int_int : Ee Tryz.prog 147 := JY (f := 147) (f1 := 158) (hd := by kernel_rfl) (h1 := h_slices_IndexFunc_int_int)
theorem h_node_sound : LQ Tryz.prog 126 := Xu (f := 126) (f1 := 79) (f2 := 145) (f3 := 146) (f4 := 147) (f5 := 148) (hd := by kernel_rfl) (h1 := h_bytes_Compare) (h2 := h_slices_ContainsFunc_byte_byte) (h3 := by kernel_rfl) (h4 := h_slices_ContainsFunc_int_int) (h5 := by kernel_rfl)
theorem h_node_Node_cell : Od Tryz.prog 128 := Ze (f := 128) (hd := by kernel_rfl)
theorem h_node_Size : Kn Tryz.prog 105 := Zv (f := 105) (fc := 128) (hd := by kernel_rfl) (hc := h_node_Node_cell)
theorem h_node_Right : Jh Tryz.prog 99 := M0 (f := 99) (f1 := 126) (f2 := 105) (hd := by kernel_rfl) (h1 := h_node_sound) (h2 := h_node_Size)
theorem h_node_page : NR Tryz.prog 100 := ZT (f := 100) (hd := by kernel_rfl)
theorem h_node_Bytes : Mh Tryz.prog 69 := Ya (f := 69) (f1 := 99) (f2 := 100) (hd := by kernel_rfl) (h1 := h_node_Right) (h2 := h_node_page)
theorem h_tree_Tree_put : Hx Tryz.prog 43 := XH (f := 43) (f1 := 69) (f2 := 70) (f3 := 71) (f4 := 72) (hd := by kernel_rfl) (h1 := h_node_Bytes) (h2 := h_pager_Pager_Put) (h3 := h_pager_Pager_Take) (h4 := h_pager_Pager_Drop)
theorem h_cache_Cache_find : Jg Tryz.prog 86 := Xt (f := 86) (hd := by kernel_rfl)
theorem h_cache_Cache_pinned : KQ Tryz.prog 163 := UY (f := 163) (hd := by kernel_rfl)
theorem h_cache_Cache_sweep : NF Tryz.prog 160 := Ws (f := 160) (f1 := 163) (hd := by kernel_rfl) (h1 := h_cache_Cache_pinned)
theorem h_cache_Cache_room : Ps Tryz.prog 151 := Xr (f := 151) (f1 := 160) (hd := by kernel_rfl) (h1 := h_cache_Cache_sweep)
theorem h_device_Device_ready : H3 Tryz.prog 83 := WJ (f := 83) (f1 := 93) (hd := by kernel_rfl) (h1 := h_device_Device_Size)
theorem h_device_Device_newest_iter_ok : Rf Tryz.prog 161 := Zz (f := 161) (f1 := 164) (hd := by kernel_rfl) (h := by kernel_rfl)
theorem h_device_Device_Read : Pb Tryz.prog 152 := XR (f := 152) (f1 := 83) (f2 := 161) (hd := by kernel_rfl) (h1 := h_device_Device_ready) (h2 := h_device_Device_newest_iter_ok)
theorem h_cache_Cache_Get : KE Tryz.prog 133 := Aaa (f := 133) (f1 := 85) (f2 := 93) (f3 := 86) (f4 := 151) (f5 := 152) (hd := by kernel_rfl) (h1 := h_cache_Cache_none) (h2 := h_device_Device_Size) (h3 := h_cache_Cache_find) (h4 := h_cache_Cache_room) (h5 := h_device_Device_Read)
theorem h_cache_Cache_Leave : HS Tryz.prog 134 := Wq (f := 134) (f1 := 85) (f2 := 86) (hd := by kernel_rfl) (h1 := h_cache_Cache_none) (h2 := h_cache_Cache_find)
theorem h_pager_Pager_Get : Fq Tryz.prog 108 := ZF (f := 108) (f1 := 38) (f2 := 95) (f3 := 75) (f4 := 133) (f5 := 134) (hd := by kernel_rfl) (h1 := h_pager_Pager_none) (h2 := h_pager_Pager_kind) (h3 := h_slices_Clone_byte_byte) (h4 := h_cache_Cache_Get) (h5 := h_cache_Cache_Leave)
theorem h_node_take : Go.Gk.Node.FM Tryz.prog 162 := OX (f := 162) (f1 := 75) (hd := by kernel_rfl) (h1 := h_slices_Clone_byte_byte)
theorem h_node_kid : UB Tryz.prog 153 := Aau (f := 153) (f1 := 162) (hd := by kernel_rfl) (h1 := h_node_take)
theorem h_node_piece : O4 Tryz.prog 154 := Yd (f := 154) (f1 := 162) (hd := by kernel_rfl) (h1 := h_node_take)
theorem h_node_parse : Pe Tryz.prog 135 := XI (f := 135) (f1 := 153) (f2 := 154) (hd := by kernel_rfl) (h1 := h_node_kid) (h2 := h_node_piece)
theorem h_bytes_Equal : Ma Tryz.prog 80 := Yi (f := 80) (hd := by kernel_rfl)
theorem h_node_Read : Q5 Tryz.prog 109 := Za (f := 109) (f1 := 135) (f2 := 99) (f3 := 100) (f4 := 80) (hd := by kernel_rfl) (h1 := h_node_parse) (h2 := h_node_Right) (h3 := h_node_page) (h4 := h_bytes_Equal)
theorem h_tree_Tree_read : Jl Tryz.prog 78 := W5 (f := 78) (f1 := 108) (f2 := 109) (hd := by kernel_rfl) (h1 := h_pager_Pager_Get) (h2 := h_node_Read)
theorem h_tree_Tree_level : H0 Tryz.prog 47 := VM (f := 47) (f1 := 78) (hd := by kernel_rfl) (h1 := h_tree_Tree_read)
theorem h_node_Find : IS Tryz.prog 48 findD := ZL (f := 48) (f1 := 79) (f2 := 80) (hd := by kernel_rfl) (h1 := h_bytes_Compare) (h2 := h_bytes_Equal)
theorem h_tree_far : QH Tryz.prog 81 := Aa3 (f := 81) (hd := by kernel_rfl)
theorem h_chain_pages_1_p1_ok : Xj Tryz.prog 155 := Abz (f := 155) (f2 := 22) (f3 := 108) (hd := by kernel_rfl) (h1 := h_chain_Pages) (h2 := h_pager_Pager_Get)
theorem h_chain_pages_cpages_ok : MU Tryz.prog 136 := VS (f := 136) (f1 := 155) (hd := by kernel_rfl) (h := h_chain_pages_1_p1_ok)
theorem h_chain_read : LM Tryz.prog 111 := Xn (f := 111) (f1 := 136) (f2 := 22) (hd := by kernel_rfl) (h1 := h_chain_pages_cpages_ok) (h2 := h_chain_Pages)
theorem h_chain_Drop : LL Tryz.prog 102 := XN (f := 102) (f1 := 111) (f2 := 72) (hd := by kernel_rfl) (h1 := h_chain_read) (h2 := h_pager_Pager_Drop)
theorem h_tree_Tree_lose : LY Tryz.prog 73 := Yh (f := 73) (f1 := 81) (f2 := 102) (hd := by kernel_rfl) (h1 := h_tree_far) (h2 := h_chain_Drop)
theorem h_slices_Insert_byte_byte : JH RBs Tryz.prog 74 := Qs (f := 74) (f1 := 104) (hd := by kernel_rfl)
theorem h_node_Split_1 : M3 Tryz.prog 129 := Wn (f := 129) (f1 := 128) (hd := by kernel_rfl) (h1 := h_node_Node_cell)
theorem h_node_own : QJ Tryz.prog 130 := AaH (f := 130) (f1 := 75) (hd := by kernel_rfl) (h1 := h_slices_Clone_byte_byte)
theorem h_node_Split : OO Tryz.prog 106 := XK (f := 106) (f1 := 126) (f2 := 129) (f3 := 130) (f4 := 75) (f5 := 53) (hd := by kernel_rfl) (h1 := h_node_sound) (h2 := h_node_Split_1) (h3 := h_node_own) (h4 := h_slices_Clone_byte_byte) (h5 := h_slices_Clone_int_int)
theorem h_tree_Tree_save : HA Tryz.prog 76 := W3 (f := 76) (f1 := 99) (f2 := 43) (f3 := 105) (f4 := 106) (hd := by kernel_rfl) (h1 := h_node_Right) (h2 := h_tree_Tree_put) (h3 := h_node_Size) (h4 := h_node_Split)
theorem h_slices_Insert_int_int : JH Bi Tryz.prog 107 := S3 (f := 107) (f1 := 132) (hd := by kernel_rfl)
theorem h_tree_Tree_renew : Jt Tryz.prog 77 := Wz (f := 77) (f1 := 105) (f2 := 74) (f3 := 107) (f4 := 76) (hd := by kernel_rfl) (h1 := h_node_Size) (h2 := h_slices_Insert_byte_byte) (h3 := h_slices_Insert_int_int) (h4 := h_tree_Tree_save)
theorem h_tree_Tree_insert : Oj Tryz.prog 44 := ZS (f := 44) (f1 := 47) (f2 := 48) (f3 := 73) (f4 := 75) (f5 := 74) (f6 := 76) (f8 := 77) (hd := by kernel_rfl) (h1 := h_tree_Tree_level) (h2 := h_node_Find) (h3 := h_tree_Tree_lose) (h4 := h_slices_Clone_byte_byte) (h5 := h_slices_Insert_byte_byte) (h6 := h_tree_Tree_save) (h8 := h_tree_Tree_renew)
theorem h_tree_truth : Pt Tryz.prog 45 := X4 (f := 45) (hd := by kernel_rfl)
theorem h_tree_Tree_grow : IX Tryz.prog 46 := W9 (f := 46) (f1 := 43) (hd := by kernel_rfl) (h1 := h_tree_Tree_put)
theorem h_tree_Tree_Put_1_tput1b_ok : MQ Tryz.prog 41 := Wr (f := 41) (f1 := 42) (f2 := 43) (f3 := 44) (f4 := 45) (f5 := 46) (hd := by kernel_rfl) (h1 := h_tree_Tree_cell_tcellb_ok) (h2 := h_tree_Tree_put) (h3 := h_tree_Tree_insert) (h4 := h_tree_truth) (h5 := h_tree_Tree_grow)
theorem h_pager_Pager_Back : HZ Tryz.prog 28 := ZE (f := 28) (f1 := 38) (f2 := 53) (f3 := 54) (hd := by kernel_rfl) (h1 := h_pager_Pager_none) (h2 := h_slices_Clone_int_int) (h3 := h_maps_Clone_map_int_byte_int_byte)
theorem h_tree_Tree_change_1 : Su Tryz.prog 67 := Zw (f := 67) (f3 := 28) (hd := by kernel_rfl) (h := h_pager_Pager_Back)
theorem h_tree_Tree_change : Io Tryz.prog 40 := UC (f := 40) (f1 := 26) (f2 := 67) (hd := by kernel_rfl) (h1 := h_pager_Pager_Mark) (h2 := h_tree_Tree_change_1)
theorem h_tree_Tree_Put_tputb_ok : FF Tryz.prog 18 := Yb (f := 18) (f1 := 39) (f2 := 41) (f3 := 40) (hd := by kernel_rfl) (h1 := h_tree_Tree_fits) (h2 := h_tree_Tree_Put_1_tput1b_ok) (h3 := h_tree_Tree_change)
theorem h_tree_Tree_Height : Hb Tryz.prog 15 := UU (f := 15) (f1 := 37) (hd := by kernel_rfl) (h1 := h_tree_Tree_none)
theorem h_tree_Tree_Count : GP Tryz.prog 14 := V0 (f := 14) (f1 := 37) (hd := by kernel_rfl) (h1 := h_tree_Tree_none)
theorem h_pager_Pager_Free : NS Tryz.prog 17 := Z3 (f := 17) (f1 := 38) (hd := by kernel_rfl) (h1 := h_pager_Pager_none)
theorem h_chain_Get : OQ Tryz.prog 82 := Xc (f := 82) (f1 := 111) (hd := by kernel_rfl) (h1 := h_chain_read)
theorem h_tree_Tree_value : JA Tryz.prog 49 := VH (f := 49) (f1 := 75) (f2 := 81) (f3 := 82) (hd := by kernel_rfl) (h1 := h_slices_Clone_byte_byte) (h2 := h_tree_far) (h3 := h_chain_Get)
theorem h_tree_Tree_Get : IW Tryz.prog 20 := Z7 (f := 20) (f1 := 39) (f2 := 47) (f3 := 48) (f4 := 49) (hd := by kernel_rfl) (h1 := h_tree_Tree_fits) (h2 := h_tree_Tree_level) (h3 := h_node_Find) (h4 := h_tree_Tree_value)
theorem h_slices_Delete_byte_byte : JM RBs Tryz.prog 88 := Qo (f := 88) (hd := by kernel_rfl)
theorem h_node_joined_byte : GH RBs Tryz.prog 137 := S5 (f := 137) (hd := by kernel_rfl)
theorem h_node_joined_int : GH Bi Tryz.prog 138 := Vj (f := 138) (hd := by kernel_rfl)
theorem h_node_Join : RZ Tryz.prog 112 := ZP (f := 112) (f1 := 137) (f2 := 130) (f3 := 138) (hd := by kernel_rfl) (h1 := h_node_joined_byte) (h2 := h_node_own) (h3 := h_node_joined_int)
theorem h_slices_Delete_int_int : JM Bi Tryz.prog 113 := S9 (f := 113) (hd := by kernel_rfl)
theorem h_tree_Tree_mend : O6 Tryz.prog 89 := Xy (f := 89) (f1 := 78) (f2 := 112) (f3 := 76) (f4 := 72) (f5 := 88) (f6 := 113) (hd := by kernel_rfl) (h1 := h_tree_Tree_read) (h2 := h_node_Join) (h3 := h_tree_Tree_save) (h4 := h_pager_Pager_Drop) (h5 := h_slices_Delete_byte_byte) (h6 := h_slices_Delete_int_int)
theorem h_tree_Tree_remove : Rr Tryz.prog 56 := ZR (f := 56) (f1 := 47) (f2 := 48) (f3 := 73) (f4 := 88) (f5 := 76) (f7 := 89) (f8 := 77) (hd := by kernel_rfl) (h1 := h_tree_Tree_level) (h2 := h_node_Find) (h3 := h_tree_Tree_lose) (h4 := h_slices_Delete_byte_byte) (h5 := h_tree_Tree_save) (h7 := h_tree_Tree_mend) (h8 := h_tree_Tree_renew)
theorem h_tree_Tree_shrink : Kk Tryz.prog 57 := UE (f := 57) (f1 := 78) (f2 := 72) (hd := by kernel_rfl) (h1 := h_tree_Tree_read) (h2 := h_pager_Pager_Drop)
theorem h_tree_Tree_Del_1 : Pq Tryz.prog 55 := Xz (f := 55) (f1 := 56) (f2 := 46) (f3 := 57) (hd := by kernel_rfl) (h1 := h_tree_Tree_remove) (h2 := h_tree_Tree_grow) (h3 := h_tree_Tree_shrink)
theorem h_tree_Tree_Del : Ll Tryz.prog 27 := Zr (f := 27) (f1 := 39) (f2 := 55) (f3 := 40) (hd := by kernel_rfl) (h1 := h_tree_Tree_fits) (h2 := h_tree_Tree_Del_1) (h3 := h_tree_Tree_change)
theorem h_tree_Tree_Root : LN Tryz.prog 16 := Yu (f := 16) (f1 := 37) (hd := by kernel_rfl) (h1 := h_tree_Tree_none)
theorem h_thimblelaw22_works : Yl Tryz.prog 13 := Vi (f := 13) (f1 := 10) (f2 := 18) (f3 := 15) (f4 := 14) (f5 := 17) (f6 := 20) (f7 := 27) (f8 := 16) (hd := by kernel_rfl) (h1 := h_thimblelaw22_Planted) (h2 := h_tree_Tree_Put_tputb_ok) (h3 := h_tree_Tree_Height) (h4 := h_tree_Tree_Count) (h5 := h_pager_Pager_Free) (h6 := h_tree_Tree_Get) (h7 := h_tree_Tree_Del) (h8 := h_tree_Tree_Root)
theorem h_thimblelaw22_Short : Mc Tryz.prog 19 := Yc (f := 19) (hd := by kernel_rfl)
theorem h_thimblelaw22_wrong : MZ Tryz.prog 33 := WR (f := 33) (hd := by kernel_rfl)
theorem h_thimbleref22_find : IZ Tryz.prog 66 := SC (f := 66) (hd := by kernel_rfl)
theorem h_thimbleref22_Del : LK Tryz.prog 35 := Xq (f := 35) (f1 := 66) (hd := by kernel_rfl) (h1 := h_thimbleref22_find)
theorem h_thimbleref22_Put : O9 Tryz.prog 34 := Xp (f := 34) (f1 := 35) (f2 := 66) (hd := by kernel_rfl) (h1 := h_thimbleref22_Del) (h2 := h_thimbleref22_find)
theorem h_device_Device_burn : LV Tryz.prog 84 := Yo (f := 84) (hd := by kernel_rfl)
theorem h_device_Device_Write : Nx Tryz.prog 50 := Ww (f := 50) (f1 := 83) (f2 := 84) (hd := by kernel_rfl) (h1 := h_device_Device_ready) (h2 := h_device_Device_burn)
theorem h_device_Device_Sync : OW Tryz.prog 51 := Yx (f := 51) (f1 := 83) (f2 := 84) (hd := by kernel_rfl) (h1 := h_device_Device_ready) (h2 := h_device_Device_burn)
theorem h_pager_Pager_Flush : I2 Tryz.prog 23 := Yj (f := 23) (f1 := 38) (f2 := 50) (f3 := 51) (hd := by kernel_rfl) (h1 := h_pager_Pager_none) (h2 := h_device_Device_Write) (h3 := h_device_Device_Sync)
theorem h_cache_Cache_Forget : Ha Tryz.prog 52 := Vc (f := 52) (f1 := 85) (f2 := 86) (hd := by kernel_rfl) (h1 := h_cache_Cache_none) (h2 := h_cache_Cache_find)
theorem h_pager_Pager_Done : Ku Tryz.prog 24 := Z6 (f := 24) (f1 := 38) (f2 := 52) (hd := by kernel_rfl) (h1 := h_pager_Pager_none) (h2 := h_cache_Cache_Forget)
theorem h_thimbleref22_Get : OP Tryz.prog 36 := XX (f := 36) (f1 := 66) (hd := by kernel_rfl) (h1 := h_thimbleref22_find)
theorem h_thimblelaw22_Grown : Pk Tryz.prog 11 := Yq (f := 11) (f1 := 19) (f2 := 33) (f3 := 15) (f4 := 22) (f5 := 17) (f6 := 18) (f7 := 34) (f8 := 27) (f9 := 35) (f10 := 23) (f11 := 24) (f12 := 20) (f13 := 36) (f14 := 14) (hd := by kernel_rfl) (h1 := h_thimblelaw22_Short) (h2 := h_thimblelaw22_wrong) (h3 := h_tree_Tree_Height) (h4 := h_chain_Pages) (h5 := h_pager_Pager_Free) (h6 := h_tree_Tree_Put_tputb_ok) (h7 := h_thimbleref22_Put) (h8 := h_tree_Tree_Del) (h9 := h_thimbleref22_Del) (h10 := h_pager_Pager_Flush) (h11 := h_pager_Pager_Done) (h12 := h_tree_Tree_Get) (h13 := h_thimbleref22_Get) (h14 := h_tree_Tree_Count)
theorem h_tree_Open : LW Tryz.prog 25 := XV (f := 25) (f1 := 26) (hd := by kernel_rfl) (h1 := h_pager_Pager_Mark)
theorem h_thimblelaw22_Has : Sp Tryz.prog 12 := ZC (f := 12) (f1 := 20) (f2 := 14) (hd := by kernel_rfl) (h1 := h_tree_Tree_Get) (h2 := h_tree_Tree_Count)
theorem own : ownKnob Tryz.prog.godebug = none := by kernel_rfl
theorem laidOut : laidOutB Tryz.prog = true := by kernel_rfl

set_option maxRecDepth 100000 in
theorem contract (H : Type) (enc : TypeId × Value → H) (W : World) (base : Nat) (args : Array Value) (ds gs : List (DataW H)) (before : List MemPlace)
    (hval : ∀ (j : Nat) t v, Tryz.f7.params[j]? = some t → args[j]? = some v → Value.okWide Tryz.prog W .any base t v)
    (hW : DataW.Whole enc Tryz.prog Tryz.f7.params.toList Rows.treeOpensSpec.vars false W args.toList ds gs before)
    (hwt : (DataW.weightsEach Tryz.prog (Tryz.f7.params.toList ++ Rows.treeOpensSpec.plain.varTypes Tryz.prog) (ds ++ gs)).all (· ≤ reachBytes) = true) :
    Calls Tryz.prog 7 args W fun e W' => ∃ v, e = .returned v ∧ Rows.treeOpensSpec.post enc Tryz.prog Tryz.f7 false true false false W args v W' := by
  have hW' := hW
  obtain ⟨p, q, hA0, hV, rfl, hfz, hnd⟩ := hW
  have hA : DataW.TrodAll enc Tryz.prog W 0 (fun _ => true) true Tryz.f7.params.toList args.toList ds p := hA0
  rw [Tryz.params7] at hA hval hwt
  obtain ⟨v0, vs0, d0, ds0, p0, q0, hargs, rfl, rfl, h0, r0⟩ := trodAll_cons hA
  obtain ⟨v1, vs1, d1, ds1, p1, q1, rfl, rfl, rfl, h1, r1⟩ := trodAll_cons r0
  obtain ⟨rfl, rfl, rfl⟩ := trodAll_nil r1
  obtain rfl : args = #[v0, v1] := by cases args; simp_all
  obtain ⟨rfl, rfl⟩ := trodVars_none hV
  obtain ⟨ax, hax⟩ := PS (sz := 3) Tryz.underlying22 (by kernel_rfl) (by omega) (of_decide_eq_true (by kernel_rfl)) (YO (ti := 3) (tb := 5) (ts := 37) Tryz.underlying54 (by kernel_rfl) rfl rfl rfl (by kernel_rfl) (by kernel_rfl) (by kernel_rfl) Tryz.underlying3 Tryz.underlying5 Tryz.underlying37 (of_decide_eq_true (by kernel_rfl))) (hval 0 22 v0 rfl rfl) h0 (MA (j := 0) hwt rfl rfl)
  obtain ⟨mx, hmx⟩ := PS (sz := 3) Tryz.underlying22 (by kernel_rfl) (by omega) (of_decide_eq_true (by kernel_rfl)) (YO (ti := 3) (tb := 5) (ts := 37) Tryz.underlying54 (by kernel_rfl) rfl rfl rfl (by kernel_rfl) (by kernel_rfl) (by kernel_rfl) Tryz.underlying3 Tryz.underlying5 Tryz.underlying37 (of_decide_eq_true (by kernel_rfl))) (hval 1 22 v1 rfl rfl) h1 (MA (j := 1) hwt rfl rfl)
  exact Vd laidOut (by kernel_rfl) hW' rfl rfl (by kernel_rfl) Tryz.underlying4 (treeOpens (f := 7) (f1 := 13) (f2 := 10) (f3 := 11) (f4 := 23) (f5 := 24) (f6 := 16) (f7 := 15) (f8 := 14) (f9 := 25) (f10 := 12) (f11 := 26) (f12 := 19) (f13 := 18) (f14 := 27) (f15 := 28) (hd := by kernel_rfl) (h1 := h_thimblelaw22_works) (h2 := h_thimblelaw22_Planted) (h3 := h_thimblelaw22_Grown) (h4 := h_pager_Pager_Flush) (h5 := h_pager_Pager_Done) (h6 := h_tree_Tree_Root) (h7 := h_tree_Tree_Height) (h8 := h_tree_Tree_Count) (h9 := h_tree_Open) (h10 := h_thimblelaw22_Has) (h11 := h_pager_Pager_Mark) (h12 := h_thimblelaw22_Short) (h13 := h_tree_Tree_Put_tputb_ok) (h14 := h_tree_Tree_Del) (h15 := h_pager_Pager_Back) (d := hw W) (hw := hax) (hu := hmx))

set_option maxRecDepth 100000 in
theorem lifted (os : Os) (started : os.Started) (H : Type) (enc : TypeId × Value → H) :
    ReturnsInHanded {} Tryz.checked os 7 .any (Rows.treeOpensSpec.pre6 enc Tryz.prog Tryz.f7 Rows.treeOpensRow.domain false) (Rows.treeOpensSpec.post enc Tryz.prog Tryz.f7 false true false false) := by
  refine returnsInHanded_of_change_sized (C := Tryz.checked) own started (by kernel_rfl) Tryz.func7
    (ChangeSpec.witness6 (enc := enc) (C := Tryz.checked) false ⟨#[], #[.slice none 0 0, .slice none 0 0], []⟩ 8 (by kernel_rfl) (by kernel_rfl) (by kernel_rfl) (by kernel_rfl)) ?_
  intro W base args ds gs before hval hW _ hwt _
  exact contract H enc W base args ds gs before hval hW hwt

theorem proved : Rows.TreeOpensSaid :=
  OpenClaim.holds_of_wide 7 Tryz.f7 rfl rfl rfl rfl rfl rfl rfl ⟨rfl, rfl, rfl, rfl, rfl⟩ rfl rfl rfl rfl rfl (by kernel_rfl) Tryz.func7 (by kernel_rfl)
    (of_decide_eq_true (by kernel_rfl)) (by unfold Func.isWrapper; first | (rw [if_pos (by decide +kernel)]; kernel_rfl) | (rw [if_neg (by decide +kernel)]; exact ⟨rfl, rfl⟩))
    (fun os started H enc _ => lifted os started H enc)
end Go.Proofs.YtpkcbopokjffhaaGreat.treeOpens
