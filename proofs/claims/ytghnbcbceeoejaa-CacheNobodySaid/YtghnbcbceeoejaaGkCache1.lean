/-
  Caches: those that are nil, or that no call made.
-/
import Derived.Test.YtghnbcbceeoejaaGk8
namespace Go.Gk.Cache
open Go Go.Gk
attribute [local irreducible] gwp gws

/-- Nil, or a struct whose first part is a nil pointer. -/
def Nob (d : PHeap) (v : Value) : Prop := v = .pointer none ∨ ∃ b, v = .pointer (some ⟨b, 0, none⟩) ∧ DC d b 0 (.pointer none)

def NoneOk (P : Program) (f : FuncId) : Prop := ∀ {d : PHeap} {v : Value}, Nob d v → GPure P f [v] d (.bool true)
def g_cache_Cache_none : GFun :=
 ⟨12, [(.tmp 2)],
 (.seq
 (.reg false (.op false ⟨(some 2), none, (.mv (.const (.bool false)))⟩ .done))
 (.seq
 (.reg false (.op false ⟨(some 3), none, (.mv (.tmp 0))⟩
  (.op false ⟨(some 4), none, (.eqp false (.tmp 3) (.const (.pointer none)))⟩
  (.op false ⟨(some 5), none, (.mv (.tmp 4))⟩
  (.op false ⟨(some 6), (some (5, false)), (.mv (.tmp 0))⟩
  (.op false ⟨(some 7), (some (5, false)), (.nilc (.tmp 6))⟩
  (.op false ⟨(some 8), (some (5, false)), (.fld 0 (.tmp 7))⟩
  (.op false ⟨(some 9), (some (5, false)), (.ld none (.tmp 8))⟩
  (.op false ⟨(some 10), (some (5, false)), (.eqp false (.tmp 9) (.const (.pointer none)))⟩
  (.op false ⟨(some 11), none, (.pick (.tmp 5) (.const (.bool true)) (.tmp 10))⟩
  (.op false ⟨(some 2), none, (.mv (.tmp 11))⟩ .done))))))))))) .ret))⟩

theorem none_ok {P : Program} {f : FuncId} (hd : dec P f = some g_cache_Cache_none) : NoneOk P f := by
  intro d v h
  refine GCall_of hd (Nat.le_of_ble_eq_true rfl) ?_
  rcases h with rfl | ⟨b, rfl, hb⟩
  · show gwp P _ _ _ _ _
    (repeat (first | (apply w_mvi; rfl) | (apply w_mvb; rfl) | (apply w_mvs; rfl) | (apply w_mvp; rfl) | (apply w_mvt; rfl) | (apply w_mva; rfl) | (apply w_mvu; rfl) | (apply w_mvf; rfl) | apply w_mv | (apply w_fld; rfl) | (apply w_ld; rfl; (first | exact hc_i 0 rfl rfl | exact hc_i 1 rfl rfl | exact hc_i 2 rfl rfl | exact hc_i 3 rfl rfl | exact hc_i 4 rfl rfl | exact hc_d (by assumption) | exact hc_ds (by assumption) rfl | exact hc_ds0 (by assumption) rfl)) | (apply w_len; rfl) | (apply w_lens; rfl) | (apply w_lss; rfl; rfl) | (apply w_leq; rfl; rfl) | (apply w_gtr; rfl; rfl) | (apply w_geq; rfl; rfl) | (apply w_eql; rfl; rfl) | (apply w_neq; rfl; rfl) | (apply w_seq; rfl; rfl) | (apply w_sne; rfl; rfl) | (apply w_slt; rfl; rfl) | (apply w_sle; rfl; rfl) | (apply w_sgt; rfl; rfl) | (apply w_sge; rfl; rfl) | (apply w_add; rfl; rfl; omega; omega) | (apply w_sub; rfl; rfl; omega; omega) | (apply w_mul; rfl; rfl; omega; omega) | (apply w_quo; rfl; rfl; omega; omega; omega) | (apply w_rem; rfl; rfl; omega; omega) | (apply w_not; rfl) | (apply w_neg; rfl; omega; omega) | (apply w_cvi64; rfl; omega; omega) | (apply w_cvi8; rfl; omega; omega) | (apply w_mx2; rfl; rfl) | (apply w_mn2; rfl; rfl) | (apply w_ext; rfl; rfl) | apply w_mkf | apply w_mki | (apply w_idx; rfl; rfl; rfl; omega; assumption) | (apply w_idx 0; rfl; rfl; rfl; omega; assumption) | (apply w_nilc; rfl) | (apply w_eqpN; rfl; rfl) | (apply w_eqpS; rfl; rfl) | (apply w_eqpS'; rfl; rfl) | (apply w_eqsN; rfl; rfl) | (apply w_eqsS; rfl; rfl) | (apply w_eqb; rfl; rfl) | (apply w_pickTb; rfl; rfl) | (apply w_pickFb; rfl; rfl) | (apply w_gT; rfl) | (apply w_gF; rfl) | (apply w_ldb 0; rfl; rfl; rfl) | (apply w_ldb 1; rfl; rfl; rfl) | (apply w_ldb 2; rfl; rfl; rfl) | (apply w_ldb 3; rfl; rfl; rfl) | (apply w_ldd; rfl; assumption; rfl) | (apply w_boxa; rfl; intro _ _) | (apply w_alo; intro _ _) | (apply w_bld; rfl) | (apply w_cap; rfl) | apply w_done0 | apply w_done | apply w_bar | refine w_gdT rfl (by omega) ?_ | refine w_gdF rfl (by omega) ?_ | (apply w_gbT; rfl; assumption) | (apply w_gbF; rfl; assumption) | (apply w_gFp; rfl) | apply w_sq | apply w_reg | apply w_skip | (apply w_ifT; rfl) | (apply w_ifF; rfl) | apply w_block | apply w_ret | apply w_exit | apply w_drawn | refine w_ifdT rfl (by omega) ?_ | refine w_ifdF rfl (by omega) ?_ | (apply w_ifbT; rfl; assumption) | (apply w_ifbF; rfl; assumption)))
    (apply finPb; rfl)
    rfl
  · show gwp P _ _ _ _ _
    (repeat (first | (apply w_mvi; rfl) | (apply w_mvb; rfl) | (apply w_mvs; rfl) | (apply w_mvp; rfl) | (apply w_mvt; rfl) | (apply w_mva; rfl) | (apply w_mvu; rfl) | (apply w_mvf; rfl) | apply w_mv | (apply w_fld; rfl) | (apply w_ld; rfl; (first | exact hc_i 0 rfl rfl | exact hc_i 1 rfl rfl | exact hc_i 2 rfl rfl | exact hc_i 3 rfl rfl | exact hc_i 4 rfl rfl | exact hc_d (by assumption) | exact hc_ds (by assumption) rfl | exact hc_ds0 (by assumption) rfl)) | (apply w_len; rfl) | (apply w_lens; rfl) | (apply w_lss; rfl; rfl) | (apply w_leq; rfl; rfl) | (apply w_gtr; rfl; rfl) | (apply w_geq; rfl; rfl) | (apply w_eql; rfl; rfl) | (apply w_neq; rfl; rfl) | (apply w_seq; rfl; rfl) | (apply w_sne; rfl; rfl) | (apply w_slt; rfl; rfl) | (apply w_sle; rfl; rfl) | (apply w_sgt; rfl; rfl) | (apply w_sge; rfl; rfl) | (apply w_add; rfl; rfl; omega; omega) | (apply w_sub; rfl; rfl; omega; omega) | (apply w_mul; rfl; rfl; omega; omega) | (apply w_quo; rfl; rfl; omega; omega; omega) | (apply w_rem; rfl; rfl; omega; omega) | (apply w_not; rfl) | (apply w_neg; rfl; omega; omega) | (apply w_cvi64; rfl; omega; omega) | (apply w_cvi8; rfl; omega; omega) | (apply w_mx2; rfl; rfl) | (apply w_mn2; rfl; rfl) | (apply w_ext; rfl; rfl) | apply w_mkf | apply w_mki | (apply w_idx; rfl; rfl; rfl; omega; assumption) | (apply w_idx 0; rfl; rfl; rfl; omega; assumption) | (apply w_nilc; rfl) | (apply w_eqpN; rfl; rfl) | (apply w_eqpS; rfl; rfl) | (apply w_eqpS'; rfl; rfl) | (apply w_eqsN; rfl; rfl) | (apply w_eqsS; rfl; rfl) | (apply w_eqb; rfl; rfl) | (apply w_pickTb; rfl; rfl) | (apply w_pickFb; rfl; rfl) | (apply w_gT; rfl) | (apply w_gF; rfl) | (apply w_ldb 0; rfl; rfl; rfl) | (apply w_ldb 1; rfl; rfl; rfl) | (apply w_ldb 2; rfl; rfl; rfl) | (apply w_ldb 3; rfl; rfl; rfl) | (apply w_ldd; rfl; assumption; rfl) | (apply w_boxa; rfl; intro _ _) | (apply w_alo; intro _ _) | (apply w_bld; rfl) | (apply w_cap; rfl) | apply w_done0 | apply w_done | apply w_bar | refine w_gdT rfl (by omega) ?_ | refine w_gdF rfl (by omega) ?_ | (apply w_gbT; rfl; assumption) | (apply w_gbF; rfl; assumption) | (apply w_gFp; rfl) | apply w_sq | apply w_reg | apply w_skip | (apply w_ifT; rfl) | (apply w_ifF; rfl) | apply w_block | apply w_ret | apply w_exit | apply w_drawn | refine w_ifdT rfl (by omega) ?_ | refine w_ifdF rfl (by omega) ?_ | (apply w_ifbT; rfl; assumption) | (apply w_ifbF; rfl; assumption)))
    (apply finPb; rfl)
    rfl

def g_cache_Cache_Get (f_cache_Cache_none f_device_Device_Size f_cache_Cache_find f_cache_Cache_room f_device_Device_Read : Nat) : GFun :=
 ⟨108, [(.tmp 4), (.tmp 5)],
 (.seq
 (.reg false (.op false ⟨(some 4), none, (.mv (.const (.slice none 0 0)))⟩
  (.op false ⟨(some 5), none, (.mv (.const (.int .i64 0)))⟩ .done)))
 (.seq (.block 0
 (.seq
 (.reg false (.op false ⟨(some 13), none, (.mv (.tmp 0))⟩
  (.op false ⟨(some 14), none, (.call f_cache_Cache_none [(.tmp 13)])⟩
  (.op false ⟨(some 12), none, (.mv (.tmp 14))⟩ .done)))) (.cond (.tmp 12)
 (.seq
 (.reg false (.op false ⟨(some 4), none, (.mv (.const (.slice none 0 0)))⟩
  (.op false ⟨(some 5), none, (.mv (.const (.int .i64 1)))⟩ .done))) .ret)
 (.seq
 (.reg false (.op false ⟨(some 16), none, (.mv (.tmp 1))⟩
  (.op false ⟨(some 17), none, (.bin .lss (.tmp 16) (.const (.int .i64 0)))⟩
  (.op false ⟨(some 18), none, (.mv (.tmp 17))⟩
  (.op false ⟨(some 19), (some (18, false)), (.mv (.tmp 1))⟩
  (.op false ⟨(some 20), (some (18, false)), (.mv (.tmp 0))⟩
  (.op false ⟨(some 21), (some (18, false)), (.nilc (.tmp 20))⟩
  (.op false ⟨(some 22), (some (18, false)), (.fld 0 (.tmp 21))⟩
  (.op false ⟨(some 23), (some (18, false)), (.ld none (.tmp 22))⟩
  (.op false ⟨(some 24), (some (18, false)), (.call f_device_Device_Size [(.tmp 23)])⟩
  (.op false ⟨(some 25), (some (18, false)), (.bin .geq (.tmp 19) (.tmp 24))⟩
  (.op false ⟨(some 26), none, (.pick (.tmp 18) (.const (.bool true)) (.tmp 25))⟩
  (.op false ⟨(some 15), none, (.mv (.tmp 26))⟩ .done))))))))))))) (.cond (.tmp 15)
 (.seq
 (.reg false (.op false ⟨(some 4), none, (.mv (.const (.slice none 0 0)))⟩
  (.op false ⟨(some 5), none, (.mv (.const (.int .i64 4)))⟩ .done))) .ret) .skip)))))
 (.seq (.seq
 (.reg false (.op false ⟨(some 28), none, (.mv (.tmp 0))⟩
  (.op false ⟨(some 29), none, (.mv (.tmp 1))⟩
  (.op false ⟨(some 30), none, (.call f_cache_Cache_find [(.tmp 28), (.tmp 29)])⟩
  (.op false ⟨(some 27), none, (.mv (.tmp 30))⟩
  (.op false ⟨(some 31), none, (.ext (.tmp 27) 0)⟩
  (.op false ⟨(some 32), none, (.ext (.tmp 27) 1)⟩
  (.op false ⟨(some 6), none, (.mv (.tmp 31))⟩
  (.op false ⟨(some 7), none, (.mv (.tmp 32))⟩ .done)))))))))
 (.seq
 (.reg false (.op false ⟨(some 33), none, (.mv (.tmp 6))⟩
  (.op false ⟨(some 34), none, (.eqp true (.tmp 33) (.const (.pointer none)))⟩ .done))) (.cond (.tmp 34)
 (.seq
 (.reg false (.op false ⟨(some 35), none, (.mv (.tmp 6))⟩
  (.op false ⟨(some 36), none, (.nilc (.tmp 35))⟩
  (.op false ⟨(some 37), none, (.fld 2 (.tmp 36))⟩
  (.op false ⟨(some 38), none, (.ld none (.tmp 37))⟩
  (.op false ⟨(some 39), none, (.bin .add (.tmp 38) (.const (.int .i64 1)))⟩
  (.op false ⟨(some 40), none, (.nilc (.tmp 35))⟩
  (.op false ⟨(some 41), none, (.fld 2 (.tmp 40))⟩
  (.op false ⟨none, none, (.st 1 (.tmp 41) (.tmp 39))⟩ .done)))))))))
 (.seq
 (.reg false (.op false ⟨(some 42), none, (.mv (.tmp 6))⟩
  (.op false ⟨(some 43), none, (.nilc (.tmp 42))⟩
  (.op false ⟨(some 44), none, (.fld 3 (.tmp 43))⟩
  (.op false ⟨none, none, (.st 1 (.tmp 44) (.const (.bool true)))⟩ .done)))))
 (.seq
 (.reg false (.op false ⟨(some 45), none, (.mv (.tmp 0))⟩
  (.op false ⟨(some 46), none, (.nilc (.tmp 45))⟩
  (.op false ⟨(some 47), none, (.fld 4 (.tmp 46))⟩
  (.op false ⟨(some 48), none, (.ld none (.tmp 47))⟩
  (.op false ⟨(some 49), none, (.bin .add (.tmp 48) (.const (.int .i64 1)))⟩
  (.op false ⟨(some 50), none, (.nilc (.tmp 45))⟩
  (.op false ⟨(some 51), none, (.fld 4 (.tmp 50))⟩
  (.op false ⟨none, none, (.st 1 (.tmp 51) (.tmp 49))⟩ .done)))))))))
 (.seq
 (.reg false (.op false ⟨(some 52), none, (.bsl 0 1 [(.int .u8 0)] [])⟩
  (.op false ⟨(some 53), none, (.mv (.tmp 6))⟩
  (.op false ⟨(some 54), none, (.nilc (.tmp 53))⟩
  (.op false ⟨(some 55), none, (.fld 4 (.tmp 54))⟩
  (.op false ⟨(some 56), none, (.ld none (.tmp 55))⟩
  (.op false ⟨(some 57), none, (.app 1 1 [(.int .u8 0)] (.tmp 52) (.tmp 56))⟩
  (.op false ⟨(some 4), none, (.mv (.tmp 57))⟩
  (.op false ⟨(some 5), none, (.mv (.const (.int .i64 0)))⟩ .done))))))))) .ret)))) .skip)))
 (.seq
 (.reg false (.op false ⟨(some 59), none, (.mv (.tmp 0))⟩
  (.op false ⟨(some 60), none, (.call f_cache_Cache_room [(.tmp 59)])⟩
  (.op false ⟨(some 58), none, (.mv (.tmp 60))⟩
  (.op false ⟨(some 61), none, (.ext (.tmp 58) 0)⟩
  (.op false ⟨(some 62), none, (.ext (.tmp 58) 1)⟩
  (.op false ⟨(some 8), none, (.mv (.tmp 61))⟩
  (.op false ⟨(some 9), none, (.mv (.tmp 62))⟩ .done))))))))
 (.seq (.seq
 (.reg false (.op false ⟨(some 63), none, (.mv (.tmp 9))⟩
  (.op false ⟨(some 64), none, (.un .not (.tmp 63))⟩ .done))) (.cond (.tmp 64)
 (.seq
 (.reg false (.op false ⟨(some 4), none, (.mv (.const (.slice none 0 0)))⟩
  (.op false ⟨(some 5), none, (.mv (.const (.int .i64 180)))⟩ .done))) .ret) .skip))
 (.seq
 (.reg false (.op false ⟨(some 66), none, (.mv (.tmp 0))⟩
  (.op false ⟨(some 67), none, (.nilc (.tmp 66))⟩
  (.op false ⟨(some 68), none, (.fld 0 (.tmp 67))⟩
  (.op false ⟨(some 69), none, (.ld none (.tmp 68))⟩
  (.op false ⟨(some 70), none, (.mv (.tmp 1))⟩
  (.op false ⟨(some 71), none, (.call f_device_Device_Read [(.tmp 69), (.tmp 70)])⟩
  (.op false ⟨(some 65), none, (.mv (.tmp 71))⟩
  (.op false ⟨(some 72), none, (.ext (.tmp 65) 0)⟩
  (.op false ⟨(some 73), none, (.ext (.tmp 65) 1)⟩
  (.op false ⟨(some 10), none, (.mv (.tmp 72))⟩
  (.op false ⟨(some 11), none, (.mv (.tmp 73))⟩ .done))))))))))))
 (.seq (.seq
 (.reg false (.op false ⟨(some 74), none, (.mv (.tmp 11))⟩
  (.op false ⟨(some 75), none, (.bin .neq (.tmp 74) (.const (.int .i64 0)))⟩ .done))) (.cond (.tmp 75)
 (.seq
 (.reg false (.op false ⟨(some 76), none, (.mv (.tmp 0))⟩
  (.op false ⟨(some 77), none, (.nilc (.tmp 76))⟩
  (.op false ⟨(some 78), none, (.fld 1 (.tmp 77))⟩
  (.op false ⟨(some 79), none, (.ld none (.tmp 78))⟩
  (.op false ⟨(some 80), none, (.mv (.tmp 8))⟩
  (.op false ⟨(some 81), none, (.bld [(0, 1), (1, 1), (2, 1), (3, 1), (4, 1)] [(.bool false), (.int .i64 0), (.int .i64 0), (.bool false), (.slice none 0 0)] [])⟩
  (.op false ⟨(some 82), none, (.idx 5 (.tmp 79) (.tmp 80))⟩
  (.op false ⟨none, none, (.st 5 (.tmp 82) (.tmp 81))⟩ .done)))))))))
 (.seq .bad
 (.seq
 (.reg false (.op false ⟨(some 88), none, (.mv (.tmp 11))⟩
  (.op false ⟨(some 4), none, (.mv (.const (.slice none 0 0)))⟩
  (.op false ⟨(some 5), none, (.mv (.tmp 88))⟩ .done)))) .ret))) .skip))
 (.seq
 (.reg false (.op false ⟨(some 89), none, (.mv (.tmp 0))⟩
  (.op false ⟨(some 90), none, (.nilc (.tmp 89))⟩
  (.op false ⟨(some 91), none, (.fld 1 (.tmp 90))⟩
  (.op false ⟨(some 92), none, (.ld none (.tmp 91))⟩
  (.op false ⟨(some 93), none, (.mv (.tmp 8))⟩
  (.op false ⟨(some 94), none, (.mv (.tmp 1))⟩
  (.op false ⟨(some 95), none, (.mv (.tmp 10))⟩
  (.op false ⟨(some 96), none, (.bld [(0, 1), (1, 1), (2, 1), (3, 1), (4, 1)] [(.bool false), (.int .i64 0), (.int .i64 0), (.bool false), (.slice none 0 0)] [(0, (.const (.bool true))), (1, (.tmp 94)), (2, (.const (.int .i64 1))), (3, (.const (.bool true))), (4, (.tmp 95))])⟩
  (.op false ⟨(some 97), none, (.idx 5 (.tmp 92) (.tmp 93))⟩
  (.op false ⟨none, none, (.st 5 (.tmp 97) (.tmp 96))⟩ .done)))))))))))
 (.seq
 (.reg false (.op false ⟨(some 98), none, (.mv (.tmp 0))⟩
  (.op false ⟨(some 99), none, (.nilc (.tmp 98))⟩
  (.op false ⟨(some 100), none, (.fld 5 (.tmp 99))⟩
  (.op false ⟨(some 101), none, (.ld none (.tmp 100))⟩
  (.op false ⟨(some 102), none, (.bin .add (.tmp 101) (.const (.int .i64 1)))⟩
  (.op false ⟨(some 103), none, (.nilc (.tmp 98))⟩
  (.op false ⟨(some 104), none, (.fld 5 (.tmp 103))⟩
  (.op false ⟨none, none, (.st 1 (.tmp 104) (.tmp 102))⟩ .done)))))))))
 (.seq
 (.reg false (.op false ⟨(some 105), none, (.bsl 0 1 [(.int .u8 0)] [])⟩
  (.op false ⟨(some 106), none, (.mv (.tmp 10))⟩
  (.op false ⟨(some 107), none, (.app 1 1 [(.int .u8 0)] (.tmp 105) (.tmp 106))⟩
  (.op false ⟨(some 4), none, (.mv (.tmp 107))⟩
  (.op false ⟨(some 5), none, (.mv (.const (.int .i64 0)))⟩ .done)))))) .ret))))))))))⟩

theorem get_nob {P : Program} {f f1 f2 f3 f4 f5 : FuncId} (hd : dec P f = some (g_cache_Cache_Get f1 f2 f3 f4 f5)) (h1 : NoneOk P f1) {d : PHeap} {v : Value} {k : Int} (h : Nob d v) :
    GPure P f [v, .int .i64 k] d (.tuple #[.slice none 0 0, .int .i64 1]) := by
  refine GCall_of hd (Nat.le_of_ble_eq_true rfl) ?_
  show gwp P _ _ _ _ _
  (repeat (first | (apply w_mvi; rfl) | (apply w_mvb; rfl) | (apply w_mvs; rfl) | (apply w_mvp; rfl) | (apply w_mvt; rfl) | (apply w_mva; rfl) | (apply w_mvu; rfl) | (apply w_mvf; rfl) | apply w_mv | (apply w_fld; rfl) | (apply w_ld; rfl; (first | exact hc_i 0 rfl rfl | exact hc_i 1 rfl rfl | exact hc_i 2 rfl rfl | exact hc_i 3 rfl rfl | exact hc_i 4 rfl rfl | exact hc_d (by assumption) | exact hc_ds (by assumption) rfl | exact hc_ds0 (by assumption) rfl)) | (apply w_len; rfl) | (apply w_lens; rfl) | (apply w_lss; rfl; rfl) | (apply w_leq; rfl; rfl) | (apply w_gtr; rfl; rfl) | (apply w_geq; rfl; rfl) | (apply w_eql; rfl; rfl) | (apply w_neq; rfl; rfl) | (apply w_seq; rfl; rfl) | (apply w_sne; rfl; rfl) | (apply w_slt; rfl; rfl) | (apply w_sle; rfl; rfl) | (apply w_sgt; rfl; rfl) | (apply w_sge; rfl; rfl) | (apply w_add; rfl; rfl; omega; omega) | (apply w_sub; rfl; rfl; omega; omega) | (apply w_mul; rfl; rfl; omega; omega) | (apply w_quo; rfl; rfl; omega; omega; omega) | (apply w_rem; rfl; rfl; omega; omega) | (apply w_not; rfl) | (apply w_neg; rfl; omega; omega) | (apply w_cvi64; rfl; omega; omega) | (apply w_cvi8; rfl; omega; omega) | (apply w_mx2; rfl; rfl) | (apply w_mn2; rfl; rfl) | (apply w_ext; rfl; rfl) | apply w_mkf | apply w_mki | (apply w_idx; rfl; rfl; rfl; omega; assumption) | (apply w_idx 0; rfl; rfl; rfl; omega; assumption) | (apply w_nilc; rfl) | (apply w_eqpN; rfl; rfl) | (apply w_eqpS; rfl; rfl) | (apply w_eqpS'; rfl; rfl) | (apply w_eqsN; rfl; rfl) | (apply w_eqsS; rfl; rfl) | (apply w_eqb; rfl; rfl) | (apply w_pickTb; rfl; rfl) | (apply w_pickFb; rfl; rfl) | (apply w_gT; rfl) | (apply w_gF; rfl) | (apply w_ldb 0; rfl; rfl; rfl) | (apply w_ldb 1; rfl; rfl; rfl) | (apply w_ldb 2; rfl; rfl; rfl) | (apply w_ldb 3; rfl; rfl; rfl) | (apply w_ldd; rfl; assumption; rfl) | (apply w_boxa; rfl; intro _ _) | (apply w_alo; intro _ _) | (apply w_bld; rfl) | (apply w_cap; rfl) | apply w_done0 | apply w_done | apply w_bar | refine w_gdT rfl (by omega) ?_ | refine w_gdF rfl (by omega) ?_ | (apply w_gbT; rfl; assumption) | (apply w_gbF; rfl; assumption) | (apply w_gFp; rfl) | apply w_sq | apply w_reg | apply w_skip | (apply w_ifT; rfl) | (apply w_ifF; rfl) | apply w_block | apply w_ret | apply w_exit | apply w_drawn | refine w_ifdT rfl (by omega) ?_ | refine w_ifdF rfl (by omega) ?_ | (apply w_ifbT; rfl; assumption) | (apply w_ifbF; rfl; assumption)))
  refine w_pure rfl (h1 h) ?_
  (repeat (first | (apply w_mvi; rfl) | (apply w_mvb; rfl) | (apply w_mvs; rfl) | (apply w_mvp; rfl) | (apply w_mvt; rfl) | (apply w_mva; rfl) | (apply w_mvu; rfl) | (apply w_mvf; rfl) | apply w_mv | (apply w_fld; rfl) | (apply w_ld; rfl; (first | exact hc_i 0 rfl rfl | exact hc_i 1 rfl rfl | exact hc_i 2 rfl rfl | exact hc_i 3 rfl rfl | exact hc_i 4 rfl rfl | exact hc_d (by assumption) | exact hc_ds (by assumption) rfl | exact hc_ds0 (by assumption) rfl)) | (apply w_len; rfl) | (apply w_lens; rfl) | (apply w_lss; rfl; rfl) | (apply w_leq; rfl; rfl) | (apply w_gtr; rfl; rfl) | (apply w_geq; rfl; rfl) | (apply w_eql; rfl; rfl) | (apply w_neq; rfl; rfl) | (apply w_seq; rfl; rfl) | (apply w_sne; rfl; rfl) | (apply w_slt; rfl; rfl) | (apply w_sle; rfl; rfl) | (apply w_sgt; rfl; rfl) | (apply w_sge; rfl; rfl) | (apply w_add; rfl; rfl; omega; omega) | (apply w_sub; rfl; rfl; omega; omega) | (apply w_mul; rfl; rfl; omega; omega) | (apply w_quo; rfl; rfl; omega; omega; omega) | (apply w_rem; rfl; rfl; omega; omega) | (apply w_not; rfl) | (apply w_neg; rfl; omega; omega) | (apply w_cvi64; rfl; omega; omega) | (apply w_cvi8; rfl; omega; omega) | (apply w_mx2; rfl; rfl) | (apply w_mn2; rfl; rfl) | (apply w_ext; rfl; rfl) | apply w_mkf | apply w_mki | (apply w_idx; rfl; rfl; rfl; omega; assumption) | (apply w_idx 0; rfl; rfl; rfl; omega; assumption) | (apply w_nilc; rfl) | (apply w_eqpN; rfl; rfl) | (apply w_eqpS; rfl; rfl) | (apply w_eqpS'; rfl; rfl) | (apply w_eqsN; rfl; rfl) | (apply w_eqsS; rfl; rfl) | (apply w_eqb; rfl; rfl) | (apply w_pickTb; rfl; rfl) | (apply w_pickFb; rfl; rfl) | (apply w_gT; rfl) | (apply w_gF; rfl) | (apply w_ldb 0; rfl; rfl; rfl) | (apply w_ldb 1; rfl; rfl; rfl) | (apply w_ldb 2; rfl; rfl; rfl) | (apply w_ldb 3; rfl; rfl; rfl) | (apply w_ldd; rfl; assumption; rfl) | (apply w_boxa; rfl; intro _ _) | (apply w_alo; intro _ _) | (apply w_bld; rfl) | (apply w_cap; rfl) | apply w_done0 | apply w_done | apply w_bar | refine w_gdT rfl (by omega) ?_ | refine w_gdF rfl (by omega) ?_ | (apply w_gbT; rfl; assumption) | (apply w_gbF; rfl; assumption) | (apply w_gFp; rfl) | apply w_sq | apply w_reg | apply w_skip | (apply w_ifT; rfl) | (apply w_ifF; rfl) | apply w_block | apply w_ret | apply w_exit | apply w_drawn | refine w_ifdT rfl (by omega) ?_ | refine w_ifdF rfl (by omega) ?_ | (apply w_ifbT; rfl; assumption) | (apply w_ifbF; rfl; assumption)))
  apply finPv2 <;> rfl

def g_cache_Cache_Leave (f_cache_Cache_none f_cache_Cache_find : Nat) : GFun :=
 ⟨31, [(.tmp 4)],
 (.seq
 (.reg false (.op false ⟨(some 4), none, (.mv (.const (.int .i64 0)))⟩ .done))
 (.seq (.seq
 (.reg false (.op false ⟨(some 7), none, (.mv (.tmp 0))⟩
  (.op false ⟨(some 8), none, (.call f_cache_Cache_none [(.tmp 7)])⟩ .done))) (.cond (.tmp 8)
 (.seq
 (.reg false (.op false ⟨(some 4), none, (.mv (.const (.int .i64 1)))⟩ .done)) .ret) .skip))
 (.seq
 (.reg false (.op false ⟨(some 10), none, (.mv (.tmp 0))⟩
  (.op false ⟨(some 11), none, (.mv (.tmp 1))⟩
  (.op false ⟨(some 12), none, (.call f_cache_Cache_find [(.tmp 10), (.tmp 11)])⟩
  (.op false ⟨(some 9), none, (.mv (.tmp 12))⟩
  (.op false ⟨(some 13), none, (.ext (.tmp 9) 0)⟩
  (.op false ⟨(some 14), none, (.ext (.tmp 9) 1)⟩
  (.op false ⟨(some 5), none, (.mv (.tmp 13))⟩
  (.op false ⟨(some 6), none, (.mv (.tmp 14))⟩ .done)))))))))
 (.seq (.block 0
 (.seq
 (.reg false (.op false ⟨(some 16), none, (.mv (.tmp 5))⟩
  (.op false ⟨(some 17), none, (.eqp false (.tmp 16) (.const (.pointer none)))⟩
  (.op false ⟨(some 15), none, (.mv (.tmp 17))⟩ .done)))) (.cond (.tmp 15)
 (.seq
 (.reg false (.op false ⟨(some 4), none, (.mv (.const (.int .i64 240)))⟩ .done)) .ret)
 (.seq
 (.reg false (.op false ⟨(some 19), none, (.mv (.tmp 5))⟩
  (.op false ⟨(some 20), none, (.nilc (.tmp 19))⟩
  (.op false ⟨(some 21), none, (.fld 2 (.tmp 20))⟩
  (.op false ⟨(some 22), none, (.ld none (.tmp 21))⟩
  (.op false ⟨(some 23), none, (.bin .eql (.tmp 22) (.const (.int .i64 0)))⟩
  (.op false ⟨(some 18), none, (.mv (.tmp 23))⟩ .done))))))) (.cond (.tmp 18)
 (.seq
 (.reg false (.op false ⟨(some 4), none, (.mv (.const (.int .i64 180)))⟩ .done)) .ret) .skip)))))
 (.seq
 (.reg false (.op false ⟨(some 24), none, (.mv (.tmp 5))⟩
  (.op false ⟨(some 25), none, (.nilc (.tmp 24))⟩
  (.op false ⟨(some 26), none, (.fld 2 (.tmp 25))⟩
  (.op false ⟨(some 27), none, (.ld none (.tmp 26))⟩
  (.op false ⟨(some 28), none, (.bin .sub (.tmp 27) (.const (.int .i64 1)))⟩
  (.op false ⟨(some 29), none, (.nilc (.tmp 24))⟩
  (.op false ⟨(some 30), none, (.fld 2 (.tmp 29))⟩
  (.op false ⟨none, none, (.st 1 (.tmp 30) (.tmp 28))⟩ .done)))))))))
 (.seq
 (.reg false (.op false ⟨(some 4), none, (.mv (.const (.int .i64 0)))⟩ .done)) .ret))))))⟩

theorem leave_nob {P : Program} {f f1 f2 : FuncId} (hd : dec P f = some (g_cache_Cache_Leave f1 f2)) (h1 : NoneOk P f1) {d : PHeap} {v : Value} {k : Int} (h : Nob d v) :
    GPure P f [v, .int .i64 k] d (.int .i64 1) := by
  refine GCall_of hd (Nat.le_of_ble_eq_true rfl) ?_
  show gwp P _ _ _ _ _
  (repeat (first | (apply w_mvi; rfl) | (apply w_mvb; rfl) | (apply w_mvs; rfl) | (apply w_mvp; rfl) | (apply w_mvt; rfl) | (apply w_mva; rfl) | (apply w_mvu; rfl) | (apply w_mvf; rfl) | apply w_mv | (apply w_fld; rfl) | (apply w_ld; rfl; (first | exact hc_i 0 rfl rfl | exact hc_i 1 rfl rfl | exact hc_i 2 rfl rfl | exact hc_i 3 rfl rfl | exact hc_i 4 rfl rfl | exact hc_d (by assumption) | exact hc_ds (by assumption) rfl | exact hc_ds0 (by assumption) rfl)) | (apply w_len; rfl) | (apply w_lens; rfl) | (apply w_lss; rfl; rfl) | (apply w_leq; rfl; rfl) | (apply w_gtr; rfl; rfl) | (apply w_geq; rfl; rfl) | (apply w_eql; rfl; rfl) | (apply w_neq; rfl; rfl) | (apply w_seq; rfl; rfl) | (apply w_sne; rfl; rfl) | (apply w_slt; rfl; rfl) | (apply w_sle; rfl; rfl) | (apply w_sgt; rfl; rfl) | (apply w_sge; rfl; rfl) | (apply w_add; rfl; rfl; omega; omega) | (apply w_sub; rfl; rfl; omega; omega) | (apply w_mul; rfl; rfl; omega; omega) | (apply w_quo; rfl; rfl; omega; omega; omega) | (apply w_rem; rfl; rfl; omega; omega) | (apply w_not; rfl) | (apply w_neg; rfl; omega; omega) | (apply w_cvi64; rfl; omega; omega) | (apply w_cvi8; rfl; omega; omega) | (apply w_mx2; rfl; rfl) | (apply w_mn2; rfl; rfl) | (apply w_ext; rfl; rfl) | apply w_mkf | apply w_mki | (apply w_idx; rfl; rfl; rfl; omega; assumption) | (apply w_idx 0; rfl; rfl; rfl; omega; assumption) | (apply w_nilc; rfl) | (apply w_eqpN; rfl; rfl) | (apply w_eqpS; rfl; rfl) | (apply w_eqpS'; rfl; rfl) | (apply w_eqsN; rfl; rfl) | (apply w_eqsS; rfl; rfl) | (apply w_eqb; rfl; rfl) | (apply w_pickTb; rfl; rfl) | (apply w_pickFb; rfl; rfl) | (apply w_gT; rfl) | (apply w_gF; rfl) | (apply w_ldb 0; rfl; rfl; rfl) | (apply w_ldb 1; rfl; rfl; rfl) | (apply w_ldb 2; rfl; rfl; rfl) | (apply w_ldb 3; rfl; rfl; rfl) | (apply w_ldd; rfl; assumption; rfl) | (apply w_boxa; rfl; intro _ _) | (apply w_alo; intro _ _) | (apply w_bld; rfl) | (apply w_cap; rfl) | apply w_done0 | apply w_done | apply w_bar | refine w_gdT rfl (by omega) ?_ | refine w_gdF rfl (by omega) ?_ | (apply w_gbT; rfl; assumption) | (apply w_gbF; rfl; assumption) | (apply w_gFp; rfl) | apply w_sq | apply w_reg | apply w_skip | (apply w_ifT; rfl) | (apply w_ifF; rfl) | apply w_block | apply w_ret | apply w_exit | apply w_drawn | refine w_ifdT rfl (by omega) ?_ | refine w_ifdF rfl (by omega) ?_ | (apply w_ifbT; rfl; assumption) | (apply w_ifbF; rfl; assumption)))
  refine w_pure rfl (h1 h) ?_
  (repeat (first | (apply w_mvi; rfl) | (apply w_mvb; rfl) | (apply w_mvs; rfl) | (apply w_mvp; rfl) | (apply w_mvt; rfl) | (apply w_mva; rfl) | (apply w_mvu; rfl) | (apply w_mvf; rfl) | apply w_mv | (apply w_fld; rfl) | (apply w_ld; rfl; (first | exact hc_i 0 rfl rfl | exact hc_i 1 rfl rfl | exact hc_i 2 rfl rfl | exact hc_i 3 rfl rfl | exact hc_i 4 rfl rfl | exact hc_d (by assumption) | exact hc_ds (by assumption) rfl | exact hc_ds0 (by assumption) rfl)) | (apply w_len; rfl) | (apply w_lens; rfl) | (apply w_lss; rfl; rfl) | (apply w_leq; rfl; rfl) | (apply w_gtr; rfl; rfl) | (apply w_geq; rfl; rfl) | (apply w_eql; rfl; rfl) | (apply w_neq; rfl; rfl) | (apply w_seq; rfl; rfl) | (apply w_sne; rfl; rfl) | (apply w_slt; rfl; rfl) | (apply w_sle; rfl; rfl) | (apply w_sgt; rfl; rfl) | (apply w_sge; rfl; rfl) | (apply w_add; rfl; rfl; omega; omega) | (apply w_sub; rfl; rfl; omega; omega) | (apply w_mul; rfl; rfl; omega; omega) | (apply w_quo; rfl; rfl; omega; omega; omega) | (apply w_rem; rfl; rfl; omega; omega) | (apply w_not; rfl) | (apply w_neg; rfl; omega; omega) | (apply w_cvi64; rfl; omega; omega) | (apply w_cvi8; rfl; omega; omega) | (apply w_mx2; rfl; rfl) | (apply w_mn2; rfl; rfl) | (apply w_ext; rfl; rfl) | apply w_mkf | apply w_mki | (apply w_idx; rfl; rfl; rfl; omega; assumption) | (apply w_idx 0; rfl; rfl; rfl; omega; assumption) | (apply w_nilc; rfl) | (apply w_eqpN; rfl; rfl) | (apply w_eqpS; rfl; rfl) | (apply w_eqpS'; rfl; rfl) | (apply w_eqsN; rfl; rfl) | (apply w_eqsS; rfl; rfl) | (apply w_eqb; rfl; rfl) | (apply w_pickTb; rfl; rfl) | (apply w_pickFb; rfl; rfl) | (apply w_gT; rfl) | (apply w_gF; rfl) | (apply w_ldb 0; rfl; rfl; rfl) | (apply w_ldb 1; rfl; rfl; rfl) | (apply w_ldb 2; rfl; rfl; rfl) | (apply w_ldb 3; rfl; rfl; rfl) | (apply w_ldd; rfl; assumption; rfl) | (apply w_boxa; rfl; intro _ _) | (apply w_alo; intro _ _) | (apply w_bld; rfl) | (apply w_cap; rfl) | apply w_done0 | apply w_done | apply w_bar | refine w_gdT rfl (by omega) ?_ | refine w_gdF rfl (by omega) ?_ | (apply w_gbT; rfl; assumption) | (apply w_gbF; rfl; assumption) | (apply w_gFp; rfl) | apply w_sq | apply w_reg | apply w_skip | (apply w_ifT; rfl) | (apply w_ifF; rfl) | apply w_block | apply w_ret | apply w_exit | apply w_drawn | refine w_ifdT rfl (by omega) ?_ | refine w_ifdF rfl (by omega) ?_ | (apply w_ifbT; rfl; assumption) | (apply w_ifbF; rfl; assumption)))
  apply finPv; rfl

def g_cache_Cache_Forget (f_cache_Cache_none f_cache_Cache_find : Nat) : GFun :=
 ⟨32, [(.tmp 4)],
 (.seq
 (.reg false (.op false ⟨(some 4), none, (.mv (.const (.int .i64 0)))⟩ .done))
 (.seq (.seq
 (.reg false (.op false ⟨(some 7), none, (.mv (.tmp 0))⟩
  (.op false ⟨(some 8), none, (.call f_cache_Cache_none [(.tmp 7)])⟩ .done))) (.cond (.tmp 8)
 (.seq
 (.reg false (.op false ⟨(some 4), none, (.mv (.const (.int .i64 1)))⟩ .done)) .ret) .skip))
 (.seq
 (.reg false (.op false ⟨(some 10), none, (.mv (.tmp 0))⟩
  (.op false ⟨(some 11), none, (.mv (.tmp 1))⟩
  (.op false ⟨(some 12), none, (.call f_cache_Cache_find [(.tmp 10), (.tmp 11)])⟩
  (.op false ⟨(some 9), none, (.mv (.tmp 12))⟩
  (.op false ⟨(some 13), none, (.ext (.tmp 9) 0)⟩
  (.op false ⟨(some 14), none, (.ext (.tmp 9) 1)⟩
  (.op false ⟨(some 5), none, (.mv (.tmp 13))⟩
  (.op false ⟨(some 6), none, (.mv (.tmp 14))⟩ .done)))))))))
 (.seq (.block 0
 (.seq
 (.reg false (.op false ⟨(some 16), none, (.mv (.tmp 5))⟩
  (.op false ⟨(some 17), none, (.eqp false (.tmp 16) (.const (.pointer none)))⟩
  (.op false ⟨(some 15), none, (.mv (.tmp 17))⟩ .done)))) (.cond (.tmp 15)
 (.seq
 (.reg false (.op false ⟨(some 4), none, (.mv (.const (.int .i64 240)))⟩ .done)) .ret)
 (.seq
 (.reg false (.op false ⟨(some 19), none, (.mv (.tmp 5))⟩
  (.op false ⟨(some 20), none, (.nilc (.tmp 19))⟩
  (.op false ⟨(some 21), none, (.fld 2 (.tmp 20))⟩
  (.op false ⟨(some 22), none, (.ld none (.tmp 21))⟩
  (.op false ⟨(some 23), none, (.bin .gtr (.tmp 22) (.const (.int .i64 0)))⟩
  (.op false ⟨(some 18), none, (.mv (.tmp 23))⟩ .done))))))) (.cond (.tmp 18)
 (.seq
 (.reg false (.op false ⟨(some 4), none, (.mv (.const (.int .i64 180)))⟩ .done)) .ret) .skip)))))
 (.seq
 (.reg false (.op false ⟨(some 24), none, (.mv (.tmp 5))⟩
  (.op false ⟨(some 25), none, (.bld [(0, 1), (1, 1), (2, 1), (3, 1), (4, 1)] [(.bool false), (.int .i64 0), (.int .i64 0), (.bool false), (.slice none 0 0)] [])⟩
  (.op false ⟨(some 26), none, (.nilc (.tmp 24))⟩
  (.op false ⟨none, none, (.st 5 (.tmp 26) (.tmp 25))⟩ .done)))))
 (.seq .bad
 (.seq
 (.reg false (.op false ⟨(some 4), none, (.mv (.const (.int .i64 0)))⟩ .done)) .ret)))))))⟩

theorem forget_nob {P : Program} {f f1 f2 : FuncId} (hd : dec P f = some (g_cache_Cache_Forget f1 f2)) (h1 : NoneOk P f1) {d : PHeap} {v : Value} {k : Int} (h : Nob d v) :
    GPure P f [v, .int .i64 k] d (.int .i64 1) := by
  refine GCall_of hd (Nat.le_of_ble_eq_true rfl) ?_
  show gwp P _ _ _ _ _
  (repeat (first | (apply w_mvi; rfl) | (apply w_mvb; rfl) | (apply w_mvs; rfl) | (apply w_mvp; rfl) | (apply w_mvt; rfl) | (apply w_mva; rfl) | (apply w_mvu; rfl) | (apply w_mvf; rfl) | apply w_mv | (apply w_fld; rfl) | (apply w_ld; rfl; (first | exact hc_i 0 rfl rfl | exact hc_i 1 rfl rfl | exact hc_i 2 rfl rfl | exact hc_i 3 rfl rfl | exact hc_i 4 rfl rfl | exact hc_d (by assumption) | exact hc_ds (by assumption) rfl | exact hc_ds0 (by assumption) rfl)) | (apply w_len; rfl) | (apply w_lens; rfl) | (apply w_lss; rfl; rfl) | (apply w_leq; rfl; rfl) | (apply w_gtr; rfl; rfl) | (apply w_geq; rfl; rfl) | (apply w_eql; rfl; rfl) | (apply w_neq; rfl; rfl) | (apply w_seq; rfl; rfl) | (apply w_sne; rfl; rfl) | (apply w_slt; rfl; rfl) | (apply w_sle; rfl; rfl) | (apply w_sgt; rfl; rfl) | (apply w_sge; rfl; rfl) | (apply w_add; rfl; rfl; omega; omega) | (apply w_sub; rfl; rfl; omega; omega) | (apply w_mul; rfl; rfl; omega; omega) | (apply w_quo; rfl; rfl; omega; omega; omega) | (apply w_rem; rfl; rfl; omega; omega) | (apply w_not; rfl) | (apply w_neg; rfl; omega; omega) | (apply w_cvi64; rfl; omega; omega) | (apply w_cvi8; rfl; omega; omega) | (apply w_mx2; rfl; rfl) | (apply w_mn2; rfl; rfl) | (apply w_ext; rfl; rfl) | apply w_mkf | apply w_mki | (apply w_idx; rfl; rfl; rfl; omega; assumption) | (apply w_idx 0; rfl; rfl; rfl; omega; assumption) | (apply w_nilc; rfl) | (apply w_eqpN; rfl; rfl) | (apply w_eqpS; rfl; rfl) | (apply w_eqpS'; rfl; rfl) | (apply w_eqsN; rfl; rfl) | (apply w_eqsS; rfl; rfl) | (apply w_eqb; rfl; rfl) | (apply w_pickTb; rfl; rfl) | (apply w_pickFb; rfl; rfl) | (apply w_gT; rfl) | (apply w_gF; rfl) | (apply w_ldb 0; rfl; rfl; rfl) | (apply w_ldb 1; rfl; rfl; rfl) | (apply w_ldb 2; rfl; rfl; rfl) | (apply w_ldb 3; rfl; rfl; rfl) | (apply w_ldd; rfl; assumption; rfl) | (apply w_boxa; rfl; intro _ _) | (apply w_alo; intro _ _) | (apply w_bld; rfl) | (apply w_cap; rfl) | apply w_done0 | apply w_done | apply w_bar | refine w_gdT rfl (by omega) ?_ | refine w_gdF rfl (by omega) ?_ | (apply w_gbT; rfl; assumption) | (apply w_gbF; rfl; assumption) | (apply w_gFp; rfl) | apply w_sq | apply w_reg | apply w_skip | (apply w_ifT; rfl) | (apply w_ifF; rfl) | apply w_block | apply w_ret | apply w_exit | apply w_drawn | refine w_ifdT rfl (by omega) ?_ | refine w_ifdF rfl (by omega) ?_ | (apply w_ifbT; rfl; assumption) | (apply w_ifbF; rfl; assumption)))
  refine w_pure rfl (h1 h) ?_
  (repeat (first | (apply w_mvi; rfl) | (apply w_mvb; rfl) | (apply w_mvs; rfl) | (apply w_mvp; rfl) | (apply w_mvt; rfl) | (apply w_mva; rfl) | (apply w_mvu; rfl) | (apply w_mvf; rfl) | apply w_mv | (apply w_fld; rfl) | (apply w_ld; rfl; (first | exact hc_i 0 rfl rfl | exact hc_i 1 rfl rfl | exact hc_i 2 rfl rfl | exact hc_i 3 rfl rfl | exact hc_i 4 rfl rfl | exact hc_d (by assumption) | exact hc_ds (by assumption) rfl | exact hc_ds0 (by assumption) rfl)) | (apply w_len; rfl) | (apply w_lens; rfl) | (apply w_lss; rfl; rfl) | (apply w_leq; rfl; rfl) | (apply w_gtr; rfl; rfl) | (apply w_geq; rfl; rfl) | (apply w_eql; rfl; rfl) | (apply w_neq; rfl; rfl) | (apply w_seq; rfl; rfl) | (apply w_sne; rfl; rfl) | (apply w_slt; rfl; rfl) | (apply w_sle; rfl; rfl) | (apply w_sgt; rfl; rfl) | (apply w_sge; rfl; rfl) | (apply w_add; rfl; rfl; omega; omega) | (apply w_sub; rfl; rfl; omega; omega) | (apply w_mul; rfl; rfl; omega; omega) | (apply w_quo; rfl; rfl; omega; omega; omega) | (apply w_rem; rfl; rfl; omega; omega) | (apply w_not; rfl) | (apply w_neg; rfl; omega; omega) | (apply w_cvi64; rfl; omega; omega) | (apply w_cvi8; rfl; omega; omega) | (apply w_mx2; rfl; rfl) | (apply w_mn2; rfl; rfl) | (apply w_ext; rfl; rfl) | apply w_mkf | apply w_mki | (apply w_idx; rfl; rfl; rfl; omega; assumption) | (apply w_idx 0; rfl; rfl; rfl; omega; assumption) | (apply w_nilc; rfl) | (apply w_eqpN; rfl; rfl) | (apply w_eqpS; rfl; rfl) | (apply w_eqpS'; rfl; rfl) | (apply w_eqsN; rfl; rfl) | (apply w_eqsS; rfl; rfl) | (apply w_eqb; rfl; rfl) | (apply w_pickTb; rfl; rfl) | (apply w_pickFb; rfl; rfl) | (apply w_gT; rfl) | (apply w_gF; rfl) | (apply w_ldb 0; rfl; rfl; rfl) | (apply w_ldb 1; rfl; rfl; rfl) | (apply w_ldb 2; rfl; rfl; rfl) | (apply w_ldb 3; rfl; rfl; rfl) | (apply w_ldd; rfl; assumption; rfl) | (apply w_boxa; rfl; intro _ _) | (apply w_alo; intro _ _) | (apply w_bld; rfl) | (apply w_cap; rfl) | apply w_done0 | apply w_done | apply w_bar | refine w_gdT rfl (by omega) ?_ | refine w_gdF rfl (by omega) ?_ | (apply w_gbT; rfl; assumption) | (apply w_gbF; rfl; assumption) | (apply w_gFp; rfl) | apply w_sq | apply w_reg | apply w_skip | (apply w_ifT; rfl) | (apply w_ifF; rfl) | apply w_block | apply w_ret | apply w_exit | apply w_drawn | refine w_ifdT rfl (by omega) ?_ | refine w_ifdF rfl (by omega) ?_ | (apply w_ifbT; rfl; assumption) | (apply w_ifbF; rfl; assumption)))
  apply finPv; rfl

def g_cache_Cache_Held (f_cache_Cache_none : Nat) : GFun :=
 ⟨29, [(.tmp 2)],
 (.seq
 (.reg false (.op false ⟨(some 2), none, (.mv (.const (.slice none 0 0)))⟩ .done))
 (.seq (.seq
 (.reg false (.op false ⟨(some 6), none, (.mv (.tmp 0))⟩
  (.op false ⟨(some 7), none, (.call f_cache_Cache_none [(.tmp 6)])⟩ .done))) (.cond (.tmp 7)
 (.seq
 (.reg false (.op false ⟨(some 2), none, (.mv (.const (.slice none 0 0)))⟩ .done)) .ret) .skip))
 (.seq
 (.reg false (.op false ⟨(some 3), none, (.mv (.const (.slice none 0 0)))⟩ .done))
 (.seq (.seq
 (.reg false (.op false ⟨(some 8), none, (.mv (.tmp 0))⟩
  (.op false ⟨(some 9), none, (.nilc (.tmp 8))⟩
  (.op false ⟨(some 10), none, (.fld 1 (.tmp 9))⟩
  (.op false ⟨(some 11), none, (.ld none (.tmp 10))⟩
  (.op false ⟨(some 12), none, (.len (.tmp 11))⟩
  (.op false ⟨(some 13), none, (.mv (.const (.int .i64 0)))⟩ .done))))))) (.block 0 (.loop
 (.seq
 (.reg false (.op false ⟨(some 14), none, (.bin .lss (.tmp 13) (.tmp 12))⟩ .done))
 (.seq (.cond (.tmp 14) .skip (.exit 0))
 (.seq (.block 1
 (.seq
 (.reg false (.op false ⟨(some 15), none, (.idx 5 (.tmp 11) (.tmp 13))⟩
  (.op false ⟨(some 16), none, (.ld (some 5) (.tmp 15))⟩
  (.op false ⟨(some 5), none, (.alo (.agg #[(.bool false), (.int .i64 0), (.int .i64 0), (.bool false), (.slice none 0 0)]))⟩
  (.op false ⟨none, none, (.st 5 (.tmp 5) (.tmp 16))⟩ .done)))))
 (.seq
 (.reg false (.op false ⟨(some 17), none, (.fld 0 (.tmp 5))⟩
  (.op false ⟨(some 18), none, (.ld none (.tmp 17))⟩ .done))) (.cond (.tmp 18)
 (.reg false (.op false ⟨(some 19), none, (.mv (.tmp 3))⟩
  (.op false ⟨(some 20), none, (.fld 1 (.tmp 5))⟩
  (.op false ⟨(some 21), none, (.ld none (.tmp 20))⟩
  (.op false ⟨(some 22), none, (.bsl 1 1 [(.int .i64 0)] [(0, (.tmp 21))])⟩
  (.op false ⟨(some 23), none, (.app 1 8 [(.int .i64 0)] (.tmp 19) (.tmp 22))⟩
  (.op false ⟨(some 3), none, (.mv (.tmp 23))⟩ .done)))))))
 (.reg false (.op false ⟨(some 24), none, (.mv (.tmp 3))⟩
  (.op false ⟨(some 25), none, (.bsl 1 1 [(.int .i64 0)] [(0, (.const (.int .i64 (-1))))])⟩
  (.op false ⟨(some 26), none, (.app 1 8 [(.int .i64 0)] (.tmp 24) (.tmp 25))⟩
  (.op false ⟨(some 3), none, (.mv (.tmp 26))⟩ .done)))))))))
 (.reg false (.op false ⟨(some 27), none, (.bin .add (.tmp 13) (.const (.int .i64 1)))⟩
  (.op false ⟨(some 13), none, (.mv (.tmp 27))⟩ .done)))))))))
 (.seq
 (.reg false (.op false ⟨(some 28), none, (.mv (.tmp 3))⟩
  (.op false ⟨(some 2), none, (.mv (.tmp 28))⟩ .done))) .ret)))))⟩

theorem held_nob {P : Program} {f f1 : FuncId} (hd : dec P f = some (g_cache_Cache_Held f1)) (h1 : NoneOk P f1) {d : PHeap} {v : Value} (h : Nob d v) :
    GPure P f [v] d (.slice none 0 0) := by
  refine GCall_of hd (Nat.le_of_ble_eq_true rfl) ?_
  show gwp P _ _ _ _ _
  (repeat (first | (apply w_mvi; rfl) | (apply w_mvb; rfl) | (apply w_mvs; rfl) | (apply w_mvp; rfl) | (apply w_mvt; rfl) | (apply w_mva; rfl) | (apply w_mvu; rfl) | (apply w_mvf; rfl) | apply w_mv | (apply w_fld; rfl) | (apply w_ld; rfl; (first | exact hc_i 0 rfl rfl | exact hc_i 1 rfl rfl | exact hc_i 2 rfl rfl | exact hc_i 3 rfl rfl | exact hc_i 4 rfl rfl | exact hc_d (by assumption) | exact hc_ds (by assumption) rfl | exact hc_ds0 (by assumption) rfl)) | (apply w_len; rfl) | (apply w_lens; rfl) | (apply w_lss; rfl; rfl) | (apply w_leq; rfl; rfl) | (apply w_gtr; rfl; rfl) | (apply w_geq; rfl; rfl) | (apply w_eql; rfl; rfl) | (apply w_neq; rfl; rfl) | (apply w_seq; rfl; rfl) | (apply w_sne; rfl; rfl) | (apply w_slt; rfl; rfl) | (apply w_sle; rfl; rfl) | (apply w_sgt; rfl; rfl) | (apply w_sge; rfl; rfl) | (apply w_add; rfl; rfl; omega; omega) | (apply w_sub; rfl; rfl; omega; omega) | (apply w_mul; rfl; rfl; omega; omega) | (apply w_quo; rfl; rfl; omega; omega; omega) | (apply w_rem; rfl; rfl; omega; omega) | (apply w_not; rfl) | (apply w_neg; rfl; omega; omega) | (apply w_cvi64; rfl; omega; omega) | (apply w_cvi8; rfl; omega; omega) | (apply w_mx2; rfl; rfl) | (apply w_mn2; rfl; rfl) | (apply w_ext; rfl; rfl) | apply w_mkf | apply w_mki | (apply w_idx; rfl; rfl; rfl; omega; assumption) | (apply w_idx 0; rfl; rfl; rfl; omega; assumption) | (apply w_nilc; rfl) | (apply w_eqpN; rfl; rfl) | (apply w_eqpS; rfl; rfl) | (apply w_eqpS'; rfl; rfl) | (apply w_eqsN; rfl; rfl) | (apply w_eqsS; rfl; rfl) | (apply w_eqb; rfl; rfl) | (apply w_pickTb; rfl; rfl) | (apply w_pickFb; rfl; rfl) | (apply w_gT; rfl) | (apply w_gF; rfl) | (apply w_ldb 0; rfl; rfl; rfl) | (apply w_ldb 1; rfl; rfl; rfl) | (apply w_ldb 2; rfl; rfl; rfl) | (apply w_ldb 3; rfl; rfl; rfl) | (apply w_ldd; rfl; assumption; rfl) | (apply w_boxa; rfl; intro _ _) | (apply w_alo; intro _ _) | (apply w_bld; rfl) | (apply w_cap; rfl) | apply w_done0 | apply w_done | apply w_bar | refine w_gdT rfl (by omega) ?_ | refine w_gdF rfl (by omega) ?_ | (apply w_gbT; rfl; assumption) | (apply w_gbF; rfl; assumption) | (apply w_gFp; rfl) | apply w_sq | apply w_reg | apply w_skip | (apply w_ifT; rfl) | (apply w_ifF; rfl) | apply w_block | apply w_ret | apply w_exit | apply w_drawn | refine w_ifdT rfl (by omega) ?_ | refine w_ifdF rfl (by omega) ?_ | (apply w_ifbT; rfl; assumption) | (apply w_ifbF; rfl; assumption)))
  refine w_pure rfl (h1 h) ?_
  (repeat (first | (apply w_mvi; rfl) | (apply w_mvb; rfl) | (apply w_mvs; rfl) | (apply w_mvp; rfl) | (apply w_mvt; rfl) | (apply w_mva; rfl) | (apply w_mvu; rfl) | (apply w_mvf; rfl) | apply w_mv | (apply w_fld; rfl) | (apply w_ld; rfl; (first | exact hc_i 0 rfl rfl | exact hc_i 1 rfl rfl | exact hc_i 2 rfl rfl | exact hc_i 3 rfl rfl | exact hc_i 4 rfl rfl | exact hc_d (by assumption) | exact hc_ds (by assumption) rfl | exact hc_ds0 (by assumption) rfl)) | (apply w_len; rfl) | (apply w_lens; rfl) | (apply w_lss; rfl; rfl) | (apply w_leq; rfl; rfl) | (apply w_gtr; rfl; rfl) | (apply w_geq; rfl; rfl) | (apply w_eql; rfl; rfl) | (apply w_neq; rfl; rfl) | (apply w_seq; rfl; rfl) | (apply w_sne; rfl; rfl) | (apply w_slt; rfl; rfl) | (apply w_sle; rfl; rfl) | (apply w_sgt; rfl; rfl) | (apply w_sge; rfl; rfl) | (apply w_add; rfl; rfl; omega; omega) | (apply w_sub; rfl; rfl; omega; omega) | (apply w_mul; rfl; rfl; omega; omega) | (apply w_quo; rfl; rfl; omega; omega; omega) | (apply w_rem; rfl; rfl; omega; omega) | (apply w_not; rfl) | (apply w_neg; rfl; omega; omega) | (apply w_cvi64; rfl; omega; omega) | (apply w_cvi8; rfl; omega; omega) | (apply w_mx2; rfl; rfl) | (apply w_mn2; rfl; rfl) | (apply w_ext; rfl; rfl) | apply w_mkf | apply w_mki | (apply w_idx; rfl; rfl; rfl; omega; assumption) | (apply w_idx 0; rfl; rfl; rfl; omega; assumption) | (apply w_nilc; rfl) | (apply w_eqpN; rfl; rfl) | (apply w_eqpS; rfl; rfl) | (apply w_eqpS'; rfl; rfl) | (apply w_eqsN; rfl; rfl) | (apply w_eqsS; rfl; rfl) | (apply w_eqb; rfl; rfl) | (apply w_pickTb; rfl; rfl) | (apply w_pickFb; rfl; rfl) | (apply w_gT; rfl) | (apply w_gF; rfl) | (apply w_ldb 0; rfl; rfl; rfl) | (apply w_ldb 1; rfl; rfl; rfl) | (apply w_ldb 2; rfl; rfl; rfl) | (apply w_ldb 3; rfl; rfl; rfl) | (apply w_ldd; rfl; assumption; rfl) | (apply w_boxa; rfl; intro _ _) | (apply w_alo; intro _ _) | (apply w_bld; rfl) | (apply w_cap; rfl) | apply w_done0 | apply w_done | apply w_bar | refine w_gdT rfl (by omega) ?_ | refine w_gdF rfl (by omega) ?_ | (apply w_gbT; rfl; assumption) | (apply w_gbF; rfl; assumption) | (apply w_gFp; rfl) | apply w_sq | apply w_reg | apply w_skip | (apply w_ifT; rfl) | (apply w_ifF; rfl) | apply w_block | apply w_ret | apply w_exit | apply w_drawn | refine w_ifdT rfl (by omega) ?_ | refine w_ifdF rfl (by omega) ?_ | (apply w_ifbT; rfl; assumption) | (apply w_ifbF; rfl; assumption)))
  apply finPv; rfl

def g_cache_Cache_Hits (f_cache_Cache_none : Nat) : GFun :=
 ⟨9, [(.tmp 2)],
 (.seq
 (.reg false (.op false ⟨(some 2), none, (.mv (.const (.int .i64 0)))⟩ .done))
 (.seq (.seq
 (.reg false (.op false ⟨(some 3), none, (.mv (.tmp 0))⟩
  (.op false ⟨(some 4), none, (.call f_cache_Cache_none [(.tmp 3)])⟩ .done))) (.cond (.tmp 4)
 (.seq
 (.reg false (.op false ⟨(some 2), none, (.mv (.const (.int .i64 0)))⟩ .done)) .ret) .skip))
 (.seq
 (.reg false (.op false ⟨(some 5), none, (.mv (.tmp 0))⟩
  (.op false ⟨(some 6), none, (.nilc (.tmp 5))⟩
  (.op false ⟨(some 7), none, (.fld 4 (.tmp 6))⟩
  (.op false ⟨(some 8), none, (.ld none (.tmp 7))⟩
  (.op false ⟨(some 2), none, (.mv (.tmp 8))⟩ .done)))))) .ret)))⟩

theorem hits_nob {P : Program} {f f1 : FuncId} (hd : dec P f = some (g_cache_Cache_Hits f1)) (h1 : NoneOk P f1) {d : PHeap} {v : Value} (h : Nob d v) :
    GPure P f [v] d (.int .i64 0) := by
  refine GCall_of hd (Nat.le_of_ble_eq_true rfl) ?_
  show gwp P _ _ _ _ _
  (repeat (first | (apply w_mvi; rfl) | (apply w_mvb; rfl) | (apply w_mvs; rfl) | (apply w_mvp; rfl) | (apply w_mvt; rfl) | (apply w_mva; rfl) | (apply w_mvu; rfl) | (apply w_mvf; rfl) | apply w_mv | (apply w_fld; rfl) | (apply w_ld; rfl; (first | exact hc_i 0 rfl rfl | exact hc_i 1 rfl rfl | exact hc_i 2 rfl rfl | exact hc_i 3 rfl rfl | exact hc_i 4 rfl rfl | exact hc_d (by assumption) | exact hc_ds (by assumption) rfl | exact hc_ds0 (by assumption) rfl)) | (apply w_len; rfl) | (apply w_lens; rfl) | (apply w_lss; rfl; rfl) | (apply w_leq; rfl; rfl) | (apply w_gtr; rfl; rfl) | (apply w_geq; rfl; rfl) | (apply w_eql; rfl; rfl) | (apply w_neq; rfl; rfl) | (apply w_seq; rfl; rfl) | (apply w_sne; rfl; rfl) | (apply w_slt; rfl; rfl) | (apply w_sle; rfl; rfl) | (apply w_sgt; rfl; rfl) | (apply w_sge; rfl; rfl) | (apply w_add; rfl; rfl; omega; omega) | (apply w_sub; rfl; rfl; omega; omega) | (apply w_mul; rfl; rfl; omega; omega) | (apply w_quo; rfl; rfl; omega; omega; omega) | (apply w_rem; rfl; rfl; omega; omega) | (apply w_not; rfl) | (apply w_neg; rfl; omega; omega) | (apply w_cvi64; rfl; omega; omega) | (apply w_cvi8; rfl; omega; omega) | (apply w_mx2; rfl; rfl) | (apply w_mn2; rfl; rfl) | (apply w_ext; rfl; rfl) | apply w_mkf | apply w_mki | (apply w_idx; rfl; rfl; rfl; omega; assumption) | (apply w_idx 0; rfl; rfl; rfl; omega; assumption) | (apply w_nilc; rfl) | (apply w_eqpN; rfl; rfl) | (apply w_eqpS; rfl; rfl) | (apply w_eqpS'; rfl; rfl) | (apply w_eqsN; rfl; rfl) | (apply w_eqsS; rfl; rfl) | (apply w_eqb; rfl; rfl) | (apply w_pickTb; rfl; rfl) | (apply w_pickFb; rfl; rfl) | (apply w_gT; rfl) | (apply w_gF; rfl) | (apply w_ldb 0; rfl; rfl; rfl) | (apply w_ldb 1; rfl; rfl; rfl) | (apply w_ldb 2; rfl; rfl; rfl) | (apply w_ldb 3; rfl; rfl; rfl) | (apply w_ldd; rfl; assumption; rfl) | (apply w_boxa; rfl; intro _ _) | (apply w_alo; intro _ _) | (apply w_bld; rfl) | (apply w_cap; rfl) | apply w_done0 | apply w_done | apply w_bar | refine w_gdT rfl (by omega) ?_ | refine w_gdF rfl (by omega) ?_ | (apply w_gbT; rfl; assumption) | (apply w_gbF; rfl; assumption) | (apply w_gFp; rfl) | apply w_sq | apply w_reg | apply w_skip | (apply w_ifT; rfl) | (apply w_ifF; rfl) | apply w_block | apply w_ret | apply w_exit | apply w_drawn | refine w_ifdT rfl (by omega) ?_ | refine w_ifdF rfl (by omega) ?_ | (apply w_ifbT; rfl; assumption) | (apply w_ifbF; rfl; assumption)))
  refine w_pure rfl (h1 h) ?_
  (repeat (first | (apply w_mvi; rfl) | (apply w_mvb; rfl) | (apply w_mvs; rfl) | (apply w_mvp; rfl) | (apply w_mvt; rfl) | (apply w_mva; rfl) | (apply w_mvu; rfl) | (apply w_mvf; rfl) | apply w_mv | (apply w_fld; rfl) | (apply w_ld; rfl; (first | exact hc_i 0 rfl rfl | exact hc_i 1 rfl rfl | exact hc_i 2 rfl rfl | exact hc_i 3 rfl rfl | exact hc_i 4 rfl rfl | exact hc_d (by assumption) | exact hc_ds (by assumption) rfl | exact hc_ds0 (by assumption) rfl)) | (apply w_len; rfl) | (apply w_lens; rfl) | (apply w_lss; rfl; rfl) | (apply w_leq; rfl; rfl) | (apply w_gtr; rfl; rfl) | (apply w_geq; rfl; rfl) | (apply w_eql; rfl; rfl) | (apply w_neq; rfl; rfl) | (apply w_seq; rfl; rfl) | (apply w_sne; rfl; rfl) | (apply w_slt; rfl; rfl) | (apply w_sle; rfl; rfl) | (apply w_sgt; rfl; rfl) | (apply w_sge; rfl; rfl) | (apply w_add; rfl; rfl; omega; omega) | (apply w_sub; rfl; rfl; omega; omega) | (apply w_mul; rfl; rfl; omega; omega) | (apply w_quo; rfl; rfl; omega; omega; omega) | (apply w_rem; rfl; rfl; omega; omega) | (apply w_not; rfl) | (apply w_neg; rfl; omega; omega) | (apply w_cvi64; rfl; omega; omega) | (apply w_cvi8; rfl; omega; omega) | (apply w_mx2; rfl; rfl) | (apply w_mn2; rfl; rfl) | (apply w_ext; rfl; rfl) | apply w_mkf | apply w_mki | (apply w_idx; rfl; rfl; rfl; omega; assumption) | (apply w_idx 0; rfl; rfl; rfl; omega; assumption) | (apply w_nilc; rfl) | (apply w_eqpN; rfl; rfl) | (apply w_eqpS; rfl; rfl) | (apply w_eqpS'; rfl; rfl) | (apply w_eqsN; rfl; rfl) | (apply w_eqsS; rfl; rfl) | (apply w_eqb; rfl; rfl) | (apply w_pickTb; rfl; rfl) | (apply w_pickFb; rfl; rfl) | (apply w_gT; rfl) | (apply w_gF; rfl) | (apply w_ldb 0; rfl; rfl; rfl) | (apply w_ldb 1; rfl; rfl; rfl) | (apply w_ldb 2; rfl; rfl; rfl) | (apply w_ldb 3; rfl; rfl; rfl) | (apply w_ldd; rfl; assumption; rfl) | (apply w_boxa; rfl; intro _ _) | (apply w_alo; intro _ _) | (apply w_bld; rfl) | (apply w_cap; rfl) | apply w_done0 | apply w_done | apply w_bar | refine w_gdT rfl (by omega) ?_ | refine w_gdF rfl (by omega) ?_ | (apply w_gbT; rfl; assumption) | (apply w_gbF; rfl; assumption) | (apply w_gFp; rfl) | apply w_sq | apply w_reg | apply w_skip | (apply w_ifT; rfl) | (apply w_ifF; rfl) | apply w_block | apply w_ret | apply w_exit | apply w_drawn | refine w_ifdT rfl (by omega) ?_ | refine w_ifdF rfl (by omega) ?_ | (apply w_ifbT; rfl; assumption) | (apply w_ifbF; rfl; assumption)))
  apply finPv; rfl

def g_cache_Cache_Misses (f_cache_Cache_none : Nat) : GFun :=
 ⟨9, [(.tmp 2)],
 (.seq
 (.reg false (.op false ⟨(some 2), none, (.mv (.const (.int .i64 0)))⟩ .done))
 (.seq (.seq
 (.reg false (.op false ⟨(some 3), none, (.mv (.tmp 0))⟩
  (.op false ⟨(some 4), none, (.call f_cache_Cache_none [(.tmp 3)])⟩ .done))) (.cond (.tmp 4)
 (.seq
 (.reg false (.op false ⟨(some 2), none, (.mv (.const (.int .i64 0)))⟩ .done)) .ret) .skip))
 (.seq
 (.reg false (.op false ⟨(some 5), none, (.mv (.tmp 0))⟩
  (.op false ⟨(some 6), none, (.nilc (.tmp 5))⟩
  (.op false ⟨(some 7), none, (.fld 5 (.tmp 6))⟩
  (.op false ⟨(some 8), none, (.ld none (.tmp 7))⟩
  (.op false ⟨(some 2), none, (.mv (.tmp 8))⟩ .done)))))) .ret)))⟩

theorem misses_nob {P : Program} {f f1 : FuncId} (hd : dec P f = some (g_cache_Cache_Misses f1)) (h1 : NoneOk P f1) {d : PHeap} {v : Value} (h : Nob d v) :
    GPure P f [v] d (.int .i64 0) := by
  refine GCall_of hd (Nat.le_of_ble_eq_true rfl) ?_
  show gwp P _ _ _ _ _
  (repeat (first | (apply w_mvi; rfl) | (apply w_mvb; rfl) | (apply w_mvs; rfl) | (apply w_mvp; rfl) | (apply w_mvt; rfl) | (apply w_mva; rfl) | (apply w_mvu; rfl) | (apply w_mvf; rfl) | apply w_mv | (apply w_fld; rfl) | (apply w_ld; rfl; (first | exact hc_i 0 rfl rfl | exact hc_i 1 rfl rfl | exact hc_i 2 rfl rfl | exact hc_i 3 rfl rfl | exact hc_i 4 rfl rfl | exact hc_d (by assumption) | exact hc_ds (by assumption) rfl | exact hc_ds0 (by assumption) rfl)) | (apply w_len; rfl) | (apply w_lens; rfl) | (apply w_lss; rfl; rfl) | (apply w_leq; rfl; rfl) | (apply w_gtr; rfl; rfl) | (apply w_geq; rfl; rfl) | (apply w_eql; rfl; rfl) | (apply w_neq; rfl; rfl) | (apply w_seq; rfl; rfl) | (apply w_sne; rfl; rfl) | (apply w_slt; rfl; rfl) | (apply w_sle; rfl; rfl) | (apply w_sgt; rfl; rfl) | (apply w_sge; rfl; rfl) | (apply w_add; rfl; rfl; omega; omega) | (apply w_sub; rfl; rfl; omega; omega) | (apply w_mul; rfl; rfl; omega; omega) | (apply w_quo; rfl; rfl; omega; omega; omega) | (apply w_rem; rfl; rfl; omega; omega) | (apply w_not; rfl) | (apply w_neg; rfl; omega; omega) | (apply w_cvi64; rfl; omega; omega) | (apply w_cvi8; rfl; omega; omega) | (apply w_mx2; rfl; rfl) | (apply w_mn2; rfl; rfl) | (apply w_ext; rfl; rfl) | apply w_mkf | apply w_mki | (apply w_idx; rfl; rfl; rfl; omega; assumption) | (apply w_idx 0; rfl; rfl; rfl; omega; assumption) | (apply w_nilc; rfl) | (apply w_eqpN; rfl; rfl) | (apply w_eqpS; rfl; rfl) | (apply w_eqpS'; rfl; rfl) | (apply w_eqsN; rfl; rfl) | (apply w_eqsS; rfl; rfl) | (apply w_eqb; rfl; rfl) | (apply w_pickTb; rfl; rfl) | (apply w_pickFb; rfl; rfl) | (apply w_gT; rfl) | (apply w_gF; rfl) | (apply w_ldb 0; rfl; rfl; rfl) | (apply w_ldb 1; rfl; rfl; rfl) | (apply w_ldb 2; rfl; rfl; rfl) | (apply w_ldb 3; rfl; rfl; rfl) | (apply w_ldd; rfl; assumption; rfl) | (apply w_boxa; rfl; intro _ _) | (apply w_alo; intro _ _) | (apply w_bld; rfl) | (apply w_cap; rfl) | apply w_done0 | apply w_done | apply w_bar | refine w_gdT rfl (by omega) ?_ | refine w_gdF rfl (by omega) ?_ | (apply w_gbT; rfl; assumption) | (apply w_gbF; rfl; assumption) | (apply w_gFp; rfl) | apply w_sq | apply w_reg | apply w_skip | (apply w_ifT; rfl) | (apply w_ifF; rfl) | apply w_block | apply w_ret | apply w_exit | apply w_drawn | refine w_ifdT rfl (by omega) ?_ | refine w_ifdF rfl (by omega) ?_ | (apply w_ifbT; rfl; assumption) | (apply w_ifbF; rfl; assumption)))
  refine w_pure rfl (h1 h) ?_
  (repeat (first | (apply w_mvi; rfl) | (apply w_mvb; rfl) | (apply w_mvs; rfl) | (apply w_mvp; rfl) | (apply w_mvt; rfl) | (apply w_mva; rfl) | (apply w_mvu; rfl) | (apply w_mvf; rfl) | apply w_mv | (apply w_fld; rfl) | (apply w_ld; rfl; (first | exact hc_i 0 rfl rfl | exact hc_i 1 rfl rfl | exact hc_i 2 rfl rfl | exact hc_i 3 rfl rfl | exact hc_i 4 rfl rfl | exact hc_d (by assumption) | exact hc_ds (by assumption) rfl | exact hc_ds0 (by assumption) rfl)) | (apply w_len; rfl) | (apply w_lens; rfl) | (apply w_lss; rfl; rfl) | (apply w_leq; rfl; rfl) | (apply w_gtr; rfl; rfl) | (apply w_geq; rfl; rfl) | (apply w_eql; rfl; rfl) | (apply w_neq; rfl; rfl) | (apply w_seq; rfl; rfl) | (apply w_sne; rfl; rfl) | (apply w_slt; rfl; rfl) | (apply w_sle; rfl; rfl) | (apply w_sgt; rfl; rfl) | (apply w_sge; rfl; rfl) | (apply w_add; rfl; rfl; omega; omega) | (apply w_sub; rfl; rfl; omega; omega) | (apply w_mul; rfl; rfl; omega; omega) | (apply w_quo; rfl; rfl; omega; omega; omega) | (apply w_rem; rfl; rfl; omega; omega) | (apply w_not; rfl) | (apply w_neg; rfl; omega; omega) | (apply w_cvi64; rfl; omega; omega) | (apply w_cvi8; rfl; omega; omega) | (apply w_mx2; rfl; rfl) | (apply w_mn2; rfl; rfl) | (apply w_ext; rfl; rfl) | apply w_mkf | apply w_mki | (apply w_idx; rfl; rfl; rfl; omega; assumption) | (apply w_idx 0; rfl; rfl; rfl; omega; assumption) | (apply w_nilc; rfl) | (apply w_eqpN; rfl; rfl) | (apply w_eqpS; rfl; rfl) | (apply w_eqpS'; rfl; rfl) | (apply w_eqsN; rfl; rfl) | (apply w_eqsS; rfl; rfl) | (apply w_eqb; rfl; rfl) | (apply w_pickTb; rfl; rfl) | (apply w_pickFb; rfl; rfl) | (apply w_gT; rfl) | (apply w_gF; rfl) | (apply w_ldb 0; rfl; rfl; rfl) | (apply w_ldb 1; rfl; rfl; rfl) | (apply w_ldb 2; rfl; rfl; rfl) | (apply w_ldb 3; rfl; rfl; rfl) | (apply w_ldd; rfl; assumption; rfl) | (apply w_boxa; rfl; intro _ _) | (apply w_alo; intro _ _) | (apply w_bld; rfl) | (apply w_cap; rfl) | apply w_done0 | apply w_done | apply w_bar | refine w_gdT rfl (by omega) ?_ | refine w_gdF rfl (by omega) ?_ | (apply w_gbT; rfl; assumption) | (apply w_gbF; rfl; assumption) | (apply w_gFp; rfl) | apply w_sq | apply w_reg | apply w_skip | (apply w_ifT; rfl) | (apply w_ifF; rfl) | apply w_block | apply w_ret | apply w_exit | apply w_drawn | refine w_ifdT rfl (by omega) ?_ | refine w_ifdF rfl (by omega) ?_ | (apply w_ifbT; rfl; assumption) | (apply w_ifbF; rfl; assumption)))
  apply finPv; rfl

/-- No device: nil, or one without sectors. -/
def NoDev (d : PHeap) (v : Value) : Prop := v = .pointer none ∨ ∃ b, v = .pointer (some ⟨b, 0, none⟩) ∧ DC d b 0 (.slice none 0 0)
def Size0Ok (P : Program) (f : FuncId) : Prop := ∀ {d : PHeap} {v : Value}, NoDev d v → GPure P f [v] d (.int .i64 0)
def g_device_Device_Size : GFun :=
 ⟨10, [(.tmp 2)],
 (.seq
 (.reg false (.op false ⟨(some 2), none, (.mv (.const (.int .i64 0)))⟩ .done))
 (.seq (.seq
 (.reg false (.op false ⟨(some 3), none, (.mv (.tmp 0))⟩
  (.op false ⟨(some 4), none, (.eqp false (.tmp 3) (.const (.pointer none)))⟩ .done))) (.cond (.tmp 4)
 (.seq
 (.reg false (.op false ⟨(some 2), none, (.mv (.const (.int .i64 0)))⟩ .done)) .ret) .skip))
 (.seq
 (.reg false (.op false ⟨(some 5), none, (.mv (.tmp 0))⟩
  (.op false ⟨(some 6), none, (.nilc (.tmp 5))⟩
  (.op false ⟨(some 7), none, (.fld 0 (.tmp 6))⟩
  (.op false ⟨(some 8), none, (.ld none (.tmp 7))⟩
  (.op false ⟨(some 9), none, (.len (.tmp 8))⟩
  (.op false ⟨(some 2), none, (.mv (.tmp 9))⟩ .done))))))) .ret)))⟩

theorem size0_ok {P : Program} {f : FuncId} (hd : dec P f = some g_device_Device_Size) : Size0Ok P f := by
  intro d v h
  refine GCall_of hd (Nat.le_of_ble_eq_true rfl) ?_
  rcases h with rfl | ⟨b, rfl, hb⟩
  · show gwp P _ _ _ _ _
    (repeat (first | (apply w_mvi; rfl) | (apply w_mvb; rfl) | (apply w_mvs; rfl) | (apply w_mvp; rfl) | (apply w_mvt; rfl) | (apply w_mva; rfl) | (apply w_mvu; rfl) | (apply w_mvf; rfl) | apply w_mv | (apply w_fld; rfl) | (apply w_ld; rfl; (first | exact hc_i 0 rfl rfl | exact hc_i 1 rfl rfl | exact hc_i 2 rfl rfl | exact hc_i 3 rfl rfl | exact hc_i 4 rfl rfl | exact hc_d (by assumption) | exact hc_ds (by assumption) rfl | exact hc_ds0 (by assumption) rfl)) | (apply w_len; rfl) | (apply w_lens; rfl) | (apply w_lss; rfl; rfl) | (apply w_leq; rfl; rfl) | (apply w_gtr; rfl; rfl) | (apply w_geq; rfl; rfl) | (apply w_eql; rfl; rfl) | (apply w_neq; rfl; rfl) | (apply w_seq; rfl; rfl) | (apply w_sne; rfl; rfl) | (apply w_slt; rfl; rfl) | (apply w_sle; rfl; rfl) | (apply w_sgt; rfl; rfl) | (apply w_sge; rfl; rfl) | (apply w_add; rfl; rfl; omega; omega) | (apply w_sub; rfl; rfl; omega; omega) | (apply w_mul; rfl; rfl; omega; omega) | (apply w_quo; rfl; rfl; omega; omega; omega) | (apply w_rem; rfl; rfl; omega; omega) | (apply w_not; rfl) | (apply w_neg; rfl; omega; omega) | (apply w_cvi64; rfl; omega; omega) | (apply w_cvi8; rfl; omega; omega) | (apply w_mx2; rfl; rfl) | (apply w_mn2; rfl; rfl) | (apply w_ext; rfl; rfl) | apply w_mkf | apply w_mki | (apply w_idx; rfl; rfl; rfl; omega; assumption) | (apply w_idx 0; rfl; rfl; rfl; omega; assumption) | (apply w_nilc; rfl) | (apply w_eqpN; rfl; rfl) | (apply w_eqpS; rfl; rfl) | (apply w_eqpS'; rfl; rfl) | (apply w_eqsN; rfl; rfl) | (apply w_eqsS; rfl; rfl) | (apply w_eqb; rfl; rfl) | (apply w_pickTb; rfl; rfl) | (apply w_pickFb; rfl; rfl) | (apply w_gT; rfl) | (apply w_gF; rfl) | (apply w_ldb 0; rfl; rfl; rfl) | (apply w_ldb 1; rfl; rfl; rfl) | (apply w_ldb 2; rfl; rfl; rfl) | (apply w_ldb 3; rfl; rfl; rfl) | (apply w_ldd; rfl; assumption; rfl) | (apply w_boxa; rfl; intro _ _) | (apply w_alo; intro _ _) | (apply w_bld; rfl) | (apply w_cap; rfl) | apply w_done0 | apply w_done | apply w_bar | refine w_gdT rfl (by omega) ?_ | refine w_gdF rfl (by omega) ?_ | (apply w_gbT; rfl; assumption) | (apply w_gbF; rfl; assumption) | (apply w_gFp; rfl) | apply w_sq | apply w_reg | apply w_skip | (apply w_ifT; rfl) | (apply w_ifF; rfl) | apply w_block | apply w_ret | apply w_exit | apply w_drawn | refine w_ifdT rfl (by omega) ?_ | refine w_ifdF rfl (by omega) ?_ | (apply w_ifbT; rfl; assumption) | (apply w_ifbF; rfl; assumption)))
    apply finPv; rfl
  · show gwp P _ _ _ _ _
    (repeat (first | (apply w_mvi; rfl) | (apply w_mvb; rfl) | (apply w_mvs; rfl) | (apply w_mvp; rfl) | (apply w_mvt; rfl) | (apply w_mva; rfl) | (apply w_mvu; rfl) | (apply w_mvf; rfl) | apply w_mv | (apply w_fld; rfl) | (apply w_ld; rfl; (first | exact hc_i 0 rfl rfl | exact hc_i 1 rfl rfl | exact hc_i 2 rfl rfl | exact hc_i 3 rfl rfl | exact hc_i 4 rfl rfl | exact hc_d (by assumption) | exact hc_ds (by assumption) rfl | exact hc_ds0 (by assumption) rfl)) | (apply w_len; rfl) | (apply w_lens; rfl) | (apply w_lss; rfl; rfl) | (apply w_leq; rfl; rfl) | (apply w_gtr; rfl; rfl) | (apply w_geq; rfl; rfl) | (apply w_eql; rfl; rfl) | (apply w_neq; rfl; rfl) | (apply w_seq; rfl; rfl) | (apply w_sne; rfl; rfl) | (apply w_slt; rfl; rfl) | (apply w_sle; rfl; rfl) | (apply w_sgt; rfl; rfl) | (apply w_sge; rfl; rfl) | (apply w_add; rfl; rfl; omega; omega) | (apply w_sub; rfl; rfl; omega; omega) | (apply w_mul; rfl; rfl; omega; omega) | (apply w_quo; rfl; rfl; omega; omega; omega) | (apply w_rem; rfl; rfl; omega; omega) | (apply w_not; rfl) | (apply w_neg; rfl; omega; omega) | (apply w_cvi64; rfl; omega; omega) | (apply w_cvi8; rfl; omega; omega) | (apply w_mx2; rfl; rfl) | (apply w_mn2; rfl; rfl) | (apply w_ext; rfl; rfl) | apply w_mkf | apply w_mki | (apply w_idx; rfl; rfl; rfl; omega; assumption) | (apply w_idx 0; rfl; rfl; rfl; omega; assumption) | (apply w_nilc; rfl) | (apply w_eqpN; rfl; rfl) | (apply w_eqpS; rfl; rfl) | (apply w_eqpS'; rfl; rfl) | (apply w_eqsN; rfl; rfl) | (apply w_eqsS; rfl; rfl) | (apply w_eqb; rfl; rfl) | (apply w_pickTb; rfl; rfl) | (apply w_pickFb; rfl; rfl) | (apply w_gT; rfl) | (apply w_gF; rfl) | (apply w_ldb 0; rfl; rfl; rfl) | (apply w_ldb 1; rfl; rfl; rfl) | (apply w_ldb 2; rfl; rfl; rfl) | (apply w_ldb 3; rfl; rfl; rfl) | (apply w_ldd; rfl; assumption; rfl) | (apply w_boxa; rfl; intro _ _) | (apply w_alo; intro _ _) | (apply w_bld; rfl) | (apply w_cap; rfl) | apply w_done0 | apply w_done | apply w_bar | refine w_gdT rfl (by omega) ?_ | refine w_gdF rfl (by omega) ?_ | (apply w_gbT; rfl; assumption) | (apply w_gbF; rfl; assumption) | (apply w_gFp; rfl) | apply w_sq | apply w_reg | apply w_skip | (apply w_ifT; rfl) | (apply w_ifF; rfl) | apply w_block | apply w_ret | apply w_exit | apply w_drawn | refine w_ifdT rfl (by omega) ?_ | refine w_ifdF rfl (by omega) ?_ | (apply w_ifbT; rfl; assumption) | (apply w_ifbF; rfl; assumption)))
    apply finPv; rfl

def g_cache_New (f_device_Device_Size : Nat) : GFun :=
 ⟨37, [(.tmp 4), (.tmp 5)],
 (.seq
 (.reg false (.op false ⟨(some 4), none, (.mv (.const (.pointer none)))⟩
  (.op false ⟨(some 5), none, (.mv (.const (.int .i64 0)))⟩ .done)))
 (.seq (.block 0
 (.seq
 (.reg false (.op false ⟨(some 9), none, (.mv (.tmp 0))⟩
  (.op false ⟨(some 10), none, (.call f_device_Device_Size [(.tmp 9)])⟩
  (.op false ⟨(some 11), none, (.bin .eql (.tmp 10) (.const (.int .i64 0)))⟩
  (.op false ⟨(some 8), none, (.mv (.tmp 11))⟩ .done))))) (.cond (.tmp 8)
 (.seq
 (.reg false (.op false ⟨(some 4), none, (.mv (.const (.pointer none)))⟩
  (.op false ⟨(some 5), none, (.mv (.const (.int .i64 1)))⟩ .done))) .ret)
 (.seq
 (.reg false (.op false ⟨(some 13), none, (.mv (.tmp 1))⟩
  (.op false ⟨(some 14), none, (.bin .lss (.tmp 13) (.const (.int .i64 1)))⟩
  (.op false ⟨(some 15), none, (.mv (.tmp 14))⟩
  (.op false ⟨(some 16), (some (15, false)), (.mv (.tmp 1))⟩
  (.op false ⟨(some 17), (some (15, false)), (.bin .gtr (.tmp 16) (.const (.int .i64 64)))⟩
  (.op false ⟨(some 18), none, (.pick (.tmp 15) (.const (.bool true)) (.tmp 17))⟩
  (.op false ⟨(some 12), none, (.mv (.tmp 18))⟩ .done)))))))) (.cond (.tmp 12)
 (.seq
 (.reg false (.op false ⟨(some 4), none, (.mv (.const (.pointer none)))⟩
  (.op false ⟨(some 5), none, (.mv (.const (.int .i64 2)))⟩ .done))) .ret) .skip)))))
 (.seq .bad
 (.seq (.seq
 (.reg false (.op false ⟨(some 26), none, (.mv (.tmp 1))⟩
  (.op false ⟨(some 27), none, (.mv (.const (.int .i64 0)))⟩ .done))) (.block 1 (.loop
 (.seq
 (.reg false (.op false ⟨(some 28), none, (.bin .lss (.tmp 27) (.tmp 26))⟩ .done))
 (.seq (.cond (.tmp 28) .skip (.exit 1))
 (.seq (.block 2
 (.seq
 (.reg false (.op false ⟨(some 29), none, (.mv (.tmp 27))⟩
  (.op false ⟨(some 7), none, (.mv (.tmp 29))⟩ .done))) .bad))
 (.reg false (.op false ⟨(some 35), none, (.bin .add (.tmp 27) (.const (.int .i64 1)))⟩
  (.op false ⟨(some 27), none, (.mv (.tmp 35))⟩ .done)))))))))
 (.seq
 (.reg false (.op false ⟨(some 36), none, (.mv (.tmp 6))⟩
  (.op false ⟨(some 4), none, (.mv (.tmp 36))⟩
  (.op false ⟨(some 5), none, (.mv (.const (.int .i64 0)))⟩ .done)))) .ret)))))⟩

theorem new_nob {P : Program} {f f1 : FuncId} (hd : dec P f = some (g_cache_New f1)) (h1 : Size0Ok P f1) {d : PHeap} {v : Value} {k : Int} (h : NoDev d v) :
    GPure P f [v, .int .i64 k] d (.tuple #[.pointer none, .int .i64 1]) := by
  refine GCall_of hd (Nat.le_of_ble_eq_true rfl) ?_
  show gwp P _ _ _ _ _
  (repeat (first | (apply w_mvi; rfl) | (apply w_mvb; rfl) | (apply w_mvs; rfl) | (apply w_mvp; rfl) | (apply w_mvt; rfl) | (apply w_mva; rfl) | (apply w_mvu; rfl) | (apply w_mvf; rfl) | apply w_mv | (apply w_fld; rfl) | (apply w_ld; rfl; (first | exact hc_i 0 rfl rfl | exact hc_i 1 rfl rfl | exact hc_i 2 rfl rfl | exact hc_i 3 rfl rfl | exact hc_i 4 rfl rfl | exact hc_d (by assumption) | exact hc_ds (by assumption) rfl | exact hc_ds0 (by assumption) rfl)) | (apply w_len; rfl) | (apply w_lens; rfl) | (apply w_lss; rfl; rfl) | (apply w_leq; rfl; rfl) | (apply w_gtr; rfl; rfl) | (apply w_geq; rfl; rfl) | (apply w_eql; rfl; rfl) | (apply w_neq; rfl; rfl) | (apply w_seq; rfl; rfl) | (apply w_sne; rfl; rfl) | (apply w_slt; rfl; rfl) | (apply w_sle; rfl; rfl) | (apply w_sgt; rfl; rfl) | (apply w_sge; rfl; rfl) | (apply w_add; rfl; rfl; omega; omega) | (apply w_sub; rfl; rfl; omega; omega) | (apply w_mul; rfl; rfl; omega; omega) | (apply w_quo; rfl; rfl; omega; omega; omega) | (apply w_rem; rfl; rfl; omega; omega) | (apply w_not; rfl) | (apply w_neg; rfl; omega; omega) | (apply w_cvi64; rfl; omega; omega) | (apply w_cvi8; rfl; omega; omega) | (apply w_mx2; rfl; rfl) | (apply w_mn2; rfl; rfl) | (apply w_ext; rfl; rfl) | apply w_mkf | apply w_mki | (apply w_idx; rfl; rfl; rfl; omega; assumption) | (apply w_idx 0; rfl; rfl; rfl; omega; assumption) | (apply w_nilc; rfl) | (apply w_eqpN; rfl; rfl) | (apply w_eqpS; rfl; rfl) | (apply w_eqpS'; rfl; rfl) | (apply w_eqsN; rfl; rfl) | (apply w_eqsS; rfl; rfl) | (apply w_eqb; rfl; rfl) | (apply w_pickTb; rfl; rfl) | (apply w_pickFb; rfl; rfl) | (apply w_gT; rfl) | (apply w_gF; rfl) | (apply w_ldb 0; rfl; rfl; rfl) | (apply w_ldb 1; rfl; rfl; rfl) | (apply w_ldb 2; rfl; rfl; rfl) | (apply w_ldb 3; rfl; rfl; rfl) | (apply w_ldd; rfl; assumption; rfl) | (apply w_boxa; rfl; intro _ _) | (apply w_alo; intro _ _) | (apply w_bld; rfl) | (apply w_cap; rfl) | apply w_done0 | apply w_done | apply w_bar | refine w_gdT rfl (by omega) ?_ | refine w_gdF rfl (by omega) ?_ | (apply w_gbT; rfl; assumption) | (apply w_gbF; rfl; assumption) | (apply w_gFp; rfl) | apply w_sq | apply w_reg | apply w_skip | (apply w_ifT; rfl) | (apply w_ifF; rfl) | apply w_block | apply w_ret | apply w_exit | apply w_drawn | refine w_ifdT rfl (by omega) ?_ | refine w_ifdF rfl (by omega) ?_ | (apply w_ifbT; rfl; assumption) | (apply w_ifbF; rfl; assumption)))
  refine w_pure rfl (h1 h) ?_
  (repeat (first | (apply w_mvi; rfl) | (apply w_mvb; rfl) | (apply w_mvs; rfl) | (apply w_mvp; rfl) | (apply w_mvt; rfl) | (apply w_mva; rfl) | (apply w_mvu; rfl) | (apply w_mvf; rfl) | apply w_mv | (apply w_fld; rfl) | (apply w_ld; rfl; (first | exact hc_i 0 rfl rfl | exact hc_i 1 rfl rfl | exact hc_i 2 rfl rfl | exact hc_i 3 rfl rfl | exact hc_i 4 rfl rfl | exact hc_d (by assumption) | exact hc_ds (by assumption) rfl | exact hc_ds0 (by assumption) rfl)) | (apply w_len; rfl) | (apply w_lens; rfl) | (apply w_lss; rfl; rfl) | (apply w_leq; rfl; rfl) | (apply w_gtr; rfl; rfl) | (apply w_geq; rfl; rfl) | (apply w_eql; rfl; rfl) | (apply w_neq; rfl; rfl) | (apply w_seq; rfl; rfl) | (apply w_sne; rfl; rfl) | (apply w_slt; rfl; rfl) | (apply w_sle; rfl; rfl) | (apply w_sgt; rfl; rfl) | (apply w_sge; rfl; rfl) | (apply w_add; rfl; rfl; omega; omega) | (apply w_sub; rfl; rfl; omega; omega) | (apply w_mul; rfl; rfl; omega; omega) | (apply w_quo; rfl; rfl; omega; omega; omega) | (apply w_rem; rfl; rfl; omega; omega) | (apply w_not; rfl) | (apply w_neg; rfl; omega; omega) | (apply w_cvi64; rfl; omega; omega) | (apply w_cvi8; rfl; omega; omega) | (apply w_mx2; rfl; rfl) | (apply w_mn2; rfl; rfl) | (apply w_ext; rfl; rfl) | apply w_mkf | apply w_mki | (apply w_idx; rfl; rfl; rfl; omega; assumption) | (apply w_idx 0; rfl; rfl; rfl; omega; assumption) | (apply w_nilc; rfl) | (apply w_eqpN; rfl; rfl) | (apply w_eqpS; rfl; rfl) | (apply w_eqpS'; rfl; rfl) | (apply w_eqsN; rfl; rfl) | (apply w_eqsS; rfl; rfl) | (apply w_eqb; rfl; rfl) | (apply w_pickTb; rfl; rfl) | (apply w_pickFb; rfl; rfl) | (apply w_gT; rfl) | (apply w_gF; rfl) | (apply w_ldb 0; rfl; rfl; rfl) | (apply w_ldb 1; rfl; rfl; rfl) | (apply w_ldb 2; rfl; rfl; rfl) | (apply w_ldb 3; rfl; rfl; rfl) | (apply w_ldd; rfl; assumption; rfl) | (apply w_boxa; rfl; intro _ _) | (apply w_alo; intro _ _) | (apply w_bld; rfl) | (apply w_cap; rfl) | apply w_done0 | apply w_done | apply w_bar | refine w_gdT rfl (by omega) ?_ | refine w_gdF rfl (by omega) ?_ | (apply w_gbT; rfl; assumption) | (apply w_gbF; rfl; assumption) | (apply w_gFp; rfl) | apply w_sq | apply w_reg | apply w_skip | (apply w_ifT; rfl) | (apply w_ifF; rfl) | apply w_block | apply w_ret | apply w_exit | apply w_drawn | refine w_ifdT rfl (by omega) ?_ | refine w_ifdF rfl (by omega) ?_ | (apply w_ifbT; rfl; assumption) | (apply w_ifbF; rfl; assumption)))
  apply finPv2 <;> rfl

def g_thimblelaw18_CacheNobody (f_cache_Cache_Get f_cache_Cache_Leave f_cache_Cache_Forget f_cache_Cache_Held f_cache_Cache_Hits f_cache_Cache_Misses f_cache_New : Nat) : GFun :=
 ⟨87, [(.tmp 2)],
 (.seq
 (.reg false (.op false ⟨(some 2), none, (.mv (.const (.bool false)))⟩ .done))
 (.seq (.seq
 (.reg false (.op false ⟨(some 11), none, (.bld [(0, 1), (1, 1), (2, 1), (3, 1), (4, 1), (5, 1)] [(.pointer none), (.slice none 0 0), (.chan none), (.int .i64 0), (.int .i64 0), (.int .i64 0)] [])⟩
  (.op false ⟨(some 12), none, (.box (.tmp 11))⟩
  (.op false ⟨(some 13), none, (.bsl 2 1 [(.pointer none)] [(0, (.const (.pointer none))), (1, (.tmp 12))])⟩
  (.op false ⟨(some 14), none, (.len (.tmp 13))⟩
  (.op false ⟨(some 15), none, (.mv (.const (.int .i64 0)))⟩ .done)))))) (.block 0 (.loop
 (.seq
 (.reg false (.op false ⟨(some 16), none, (.bin .lss (.tmp 15) (.tmp 14))⟩ .done))
 (.seq (.cond (.tmp 16) .skip (.exit 0))
 (.seq (.block 1
 (.seq
 (.reg false (.op false ⟨(some 17), none, (.idx 1 (.tmp 13) (.tmp 15))⟩
  (.op false ⟨(some 18), none, (.ld none (.tmp 17))⟩
  (.op false ⟨(some 4), none, (.mv (.tmp 18))⟩ .done))))
 (.seq
 (.reg false (.op false ⟨(some 20), none, (.mv (.tmp 4))⟩
  (.op false ⟨(some 21), none, (.mv (.tmp 0))⟩
  (.op false ⟨(some 22), none, (.call f_cache_Cache_Get [(.tmp 20), (.tmp 21)])⟩
  (.op false ⟨(some 19), none, (.mv (.tmp 22))⟩
  (.op false ⟨(some 23), none, (.ext (.tmp 19) 0)⟩
  (.op false ⟨(some 24), none, (.ext (.tmp 19) 1)⟩
  (.op false ⟨(some 5), none, (.mv (.tmp 23))⟩
  (.op false ⟨(some 6), none, (.mv (.tmp 24))⟩ .done)))))))))
 (.seq
 (.reg false (.op false ⟨(some 25), none, (.mv (.tmp 5))⟩
  (.op false ⟨(some 26), none, (.len (.tmp 25))⟩
  (.op false ⟨(some 27), none, (.bin .neq (.tmp 26) (.const (.int .i64 0)))⟩
  (.op false ⟨(some 28), none, (.mv (.tmp 27))⟩
  (.op false ⟨(some 29), (some (28, false)), (.mv (.tmp 6))⟩
  (.op false ⟨(some 30), (some (28, false)), (.bin .neq (.tmp 29) (.const (.int .i64 1)))⟩
  (.op false ⟨(some 31), none, (.pick (.tmp 28) (.const (.bool true)) (.tmp 30))⟩
  (.op false ⟨(some 32), none, (.mv (.tmp 31))⟩
  (.op false ⟨(some 33), (some (32, false)), (.mv (.tmp 4))⟩
  (.op false ⟨(some 34), (some (32, false)), (.mv (.tmp 0))⟩
  (.op false ⟨(some 35), (some (32, false)), (.call f_cache_Cache_Leave [(.tmp 33), (.tmp 34)])⟩
  (.op false ⟨(some 36), (some (32, false)), (.bin .neq (.tmp 35) (.const (.int .i64 1)))⟩
  (.op false ⟨(some 37), none, (.pick (.tmp 32) (.const (.bool true)) (.tmp 36))⟩
  (.op false ⟨(some 38), none, (.mv (.tmp 37))⟩
  (.op false ⟨(some 39), (some (38, false)), (.mv (.tmp 4))⟩
  (.op false ⟨(some 40), (some (38, false)), (.mv (.tmp 0))⟩
  (.op false ⟨(some 41), (some (38, false)), (.call f_cache_Cache_Forget [(.tmp 39), (.tmp 40)])⟩
  (.op false ⟨(some 42), (some (38, false)), (.bin .neq (.tmp 41) (.const (.int .i64 1)))⟩
  (.op false ⟨(some 43), none, (.pick (.tmp 38) (.const (.bool true)) (.tmp 42))⟩
  (.op false ⟨(some 44), none, (.mv (.tmp 43))⟩
  (.op false ⟨(some 45), (some (44, false)), (.mv (.tmp 4))⟩
  (.op false ⟨(some 46), (some (44, false)), (.call f_cache_Cache_Held [(.tmp 45)])⟩
  (.op false ⟨(some 47), (some (44, false)), (.len (.tmp 46))⟩
  (.op false ⟨(some 48), (some (44, false)), (.bin .neq (.tmp 47) (.const (.int .i64 0)))⟩
  (.op false ⟨(some 49), none, (.pick (.tmp 44) (.const (.bool true)) (.tmp 48))⟩
  (.op false ⟨(some 50), none, (.mv (.tmp 49))⟩
  (.op false ⟨(some 51), (some (50, false)), (.mv (.tmp 4))⟩
  (.op false ⟨(some 52), (some (50, false)), (.call f_cache_Cache_Hits [(.tmp 51)])⟩
  (.op false ⟨(some 53), (some (50, false)), (.bin .neq (.tmp 52) (.const (.int .i64 0)))⟩
  (.op false ⟨(some 54), none, (.pick (.tmp 50) (.const (.bool true)) (.tmp 53))⟩
  (.op false ⟨(some 55), none, (.mv (.tmp 54))⟩
  (.op false ⟨(some 56), (some (55, false)), (.mv (.tmp 4))⟩
  (.op false ⟨(some 57), (some (55, false)), (.call f_cache_Cache_Misses [(.tmp 56)])⟩
  (.op false ⟨(some 58), (some (55, false)), (.bin .neq (.tmp 57) (.const (.int .i64 0)))⟩
  (.op false ⟨(some 59), none, (.pick (.tmp 55) (.const (.bool true)) (.tmp 58))⟩ .done)))))))))))))))))))))))))))))))))))) (.cond (.tmp 59)
 (.seq
 (.reg false (.op false ⟨(some 2), none, (.mv (.const (.bool false)))⟩ .done)) .ret) .skip)))))
 (.reg false (.op false ⟨(some 60), none, (.bin .add (.tmp 15) (.const (.int .i64 1)))⟩
  (.op false ⟨(some 15), none, (.mv (.tmp 60))⟩ .done)))))))))
 (.seq
 (.reg false (.op false ⟨(some 62), none, (.mv (.tmp 0))⟩
  (.op false ⟨(some 63), none, (.call f_cache_New [(.const (.pointer none)), (.tmp 62)])⟩
  (.op false ⟨(some 61), none, (.mv (.tmp 63))⟩
  (.op false ⟨(some 64), none, (.ext (.tmp 61) 0)⟩
  (.op false ⟨(some 65), none, (.ext (.tmp 61) 1)⟩
  (.op false ⟨(some 7), none, (.mv (.tmp 64))⟩
  (.op false ⟨(some 8), none, (.mv (.tmp 65))⟩ .done))))))))
 (.seq
 (.reg false (.op false ⟨(some 67), none, (.bld [(0, 1), (1, 1), (2, 1), (3, 1)] [(.slice none 0 0), (.slice none 0 0), (.int .i64 0), (.int .i64 0)] [])⟩
  (.op false ⟨(some 68), none, (.box (.tmp 67))⟩
  (.op false ⟨(some 69), none, (.mv (.tmp 0))⟩
  (.op false ⟨(some 70), none, (.call f_cache_New [(.tmp 68), (.tmp 69)])⟩
  (.op false ⟨(some 66), none, (.mv (.tmp 70))⟩
  (.op false ⟨(some 71), none, (.ext (.tmp 66) 0)⟩
  (.op false ⟨(some 72), none, (.ext (.tmp 66) 1)⟩
  (.op false ⟨(some 9), none, (.mv (.tmp 71))⟩
  (.op false ⟨(some 10), none, (.mv (.tmp 72))⟩ .done))))))))))
 (.seq
 (.reg false (.op false ⟨(some 73), none, (.mv (.tmp 7))⟩
  (.op false ⟨(some 74), none, (.eqp false (.tmp 73) (.const (.pointer none)))⟩
  (.op false ⟨(some 75), none, (.mv (.tmp 74))⟩
  (.op false ⟨(some 76), (some (75, true)), (.mv (.tmp 9))⟩
  (.op false ⟨(some 77), (some (75, true)), (.eqp false (.tmp 76) (.const (.pointer none)))⟩
  (.op false ⟨(some 78), none, (.pick (.tmp 75) (.tmp 77) (.const (.bool false)))⟩
  (.op false ⟨(some 79), none, (.mv (.tmp 78))⟩
  (.op false ⟨(some 80), (some (79, true)), (.mv (.tmp 8))⟩
  (.op false ⟨(some 81), (some (79, true)), (.bin .eql (.tmp 80) (.const (.int .i64 1)))⟩
  (.op false ⟨(some 82), none, (.pick (.tmp 79) (.tmp 81) (.const (.bool false)))⟩
  (.op false ⟨(some 83), none, (.mv (.tmp 82))⟩
  (.op false ⟨(some 84), (some (83, true)), (.mv (.tmp 10))⟩
  (.op false ⟨(some 85), (some (83, true)), (.bin .eql (.tmp 84) (.const (.int .i64 1)))⟩
  (.op false ⟨(some 86), none, (.pick (.tmp 83) (.tmp 85) (.const (.bool false)))⟩
  (.op false ⟨(some 2), none, (.mv (.tmp 86))⟩ .done)))))))))))))))) .ret)))))⟩

theorem nobody {P : Program} {f f1 f2 f3 f4 f5 f6 f7 g1 g2 g3 g4 g5 g6 g7 g8 g9 g10 : FuncId} (hd : dec P f = some (g_thimblelaw18_CacheNobody f1 f2 f3 f4 f5 f6 f7))
    (h1 : dec P f1 = some (g_cache_Cache_Get g1 g2 g3 g4 g5)) (h2 : dec P f2 = some (g_cache_Cache_Leave g1 g3)) (h3 : dec P f3 = some (g_cache_Cache_Forget g1 g3)) (h4 : dec P f4 = some (g_cache_Cache_Held g1))
    (h5 : dec P f5 = some (g_cache_Cache_Hits g1)) (h6 : dec P f6 = some (g_cache_Cache_Misses g1)) (h7 : dec P f7 = some (g_cache_New g2)) (k1 : dec P g1 = some g_cache_Cache_none) (k2 : dec P g2 = some g_device_Device_Size)
    {d : PHeap} {k : Int} : GCall P f [.int .i64 k] d [] (Ret fun v _ _ => v = .bool true) := by
  have hn : NoneOk P g1 := none_ok k1
  have hs : Size0Ok P g2 := size0_ok k2
  refine GCall_of hd (Nat.le_of_ble_eq_true rfl) ?_
  show gwp P _ _ _ _ _
  (repeat (first | (apply w_mvi; rfl) | (apply w_mvb; rfl) | (apply w_mvs; rfl) | (apply w_mvp; rfl) | (apply w_mvt; rfl) | (apply w_mva; rfl) | (apply w_mvu; rfl) | (apply w_mvf; rfl) | apply w_mv | (apply w_fld; rfl) | (apply w_ld; rfl; (first | exact hc_i 0 rfl rfl | exact hc_i 1 rfl rfl | exact hc_i 2 rfl rfl | exact hc_i 3 rfl rfl | exact hc_i 4 rfl rfl | exact hc_d (by assumption) | exact hc_ds (by assumption) rfl | exact hc_ds0 (by assumption) rfl)) | (apply w_len; rfl) | (apply w_lens; rfl) | (apply w_lss; rfl; rfl) | (apply w_leq; rfl; rfl) | (apply w_gtr; rfl; rfl) | (apply w_geq; rfl; rfl) | (apply w_eql; rfl; rfl) | (apply w_neq; rfl; rfl) | (apply w_seq; rfl; rfl) | (apply w_sne; rfl; rfl) | (apply w_slt; rfl; rfl) | (apply w_sle; rfl; rfl) | (apply w_sgt; rfl; rfl) | (apply w_sge; rfl; rfl) | (apply w_add; rfl; rfl; omega; omega) | (apply w_sub; rfl; rfl; omega; omega) | (apply w_mul; rfl; rfl; omega; omega) | (apply w_quo; rfl; rfl; omega; omega; omega) | (apply w_rem; rfl; rfl; omega; omega) | (apply w_not; rfl) | (apply w_neg; rfl; omega; omega) | (apply w_cvi64; rfl; omega; omega) | (apply w_cvi8; rfl; omega; omega) | (apply w_mx2; rfl; rfl) | (apply w_mn2; rfl; rfl) | (apply w_ext; rfl; rfl) | apply w_mkf | apply w_mki | (apply w_idx; rfl; rfl; rfl; omega; assumption) | (apply w_idx 0; rfl; rfl; rfl; omega; assumption) | (apply w_nilc; rfl) | (apply w_eqpN; rfl; rfl) | (apply w_eqpS; rfl; rfl) | (apply w_eqpS'; rfl; rfl) | (apply w_eqsN; rfl; rfl) | (apply w_eqsS; rfl; rfl) | (apply w_eqb; rfl; rfl) | (apply w_pickTb; rfl; rfl) | (apply w_pickFb; rfl; rfl) | (apply w_gT; rfl) | (apply w_gF; rfl) | (apply w_ldb 0; rfl; rfl; rfl) | (apply w_ldb 1; rfl; rfl; rfl) | (apply w_ldb 2; rfl; rfl; rfl) | (apply w_ldb 3; rfl; rfl; rfl) | (apply w_ldd; rfl; assumption; rfl) | (apply w_boxa; rfl; intro _ _) | (apply w_alo; intro _ _) | (apply w_bld; rfl) | (apply w_cap; rfl) | apply w_done0 | apply w_done | apply w_bar | refine w_gdT rfl (by omega) ?_ | refine w_gdF rfl (by omega) ?_ | (apply w_gbT; rfl; assumption) | (apply w_gbF; rfl; assumption) | (apply w_gFp; rfl) | apply w_sq | apply w_reg | apply w_skip | (apply w_ifT; rfl) | (apply w_ifF; rfl) | apply w_block | apply w_ret | apply w_exit | apply w_drawn | refine w_ifdT rfl (by omega) ?_ | refine w_ifdF rfl (by omega) ?_ | (apply w_ifbT; rfl; assumption) | (apply w_ifbF; rfl; assumption)))
  rename_i b T
  refine w_frz (fun d1 hl1 hb1 => ?_)
  replace hb1 := dcs_bx hb1
  refine w_bsl (cs := [.pointer none, .pointer (some ⟨b, 0, none⟩)]) (by omega) rfl (fun b2 T2 => ?_)
  (repeat (first | (apply w_mvi; rfl) | (apply w_mvb; rfl) | (apply w_mvs; rfl) | (apply w_mvp; rfl) | (apply w_mvt; rfl) | (apply w_mva; rfl) | (apply w_mvu; rfl) | (apply w_mvf; rfl) | apply w_mv | (apply w_fld; rfl) | (apply w_ld; rfl; (first | exact hc_i 0 rfl rfl | exact hc_i 1 rfl rfl | exact hc_i 2 rfl rfl | exact hc_i 3 rfl rfl | exact hc_i 4 rfl rfl | exact hc_d (by assumption) | exact hc_ds (by assumption) rfl | exact hc_ds0 (by assumption) rfl)) | (apply w_len; rfl) | (apply w_lens; rfl) | (apply w_lss; rfl; rfl) | (apply w_leq; rfl; rfl) | (apply w_gtr; rfl; rfl) | (apply w_geq; rfl; rfl) | (apply w_eql; rfl; rfl) | (apply w_neq; rfl; rfl) | (apply w_seq; rfl; rfl) | (apply w_sne; rfl; rfl) | (apply w_slt; rfl; rfl) | (apply w_sle; rfl; rfl) | (apply w_sgt; rfl; rfl) | (apply w_sge; rfl; rfl) | (apply w_add; rfl; rfl; omega; omega) | (apply w_sub; rfl; rfl; omega; omega) | (apply w_mul; rfl; rfl; omega; omega) | (apply w_quo; rfl; rfl; omega; omega; omega) | (apply w_rem; rfl; rfl; omega; omega) | (apply w_not; rfl) | (apply w_neg; rfl; omega; omega) | (apply w_cvi64; rfl; omega; omega) | (apply w_cvi8; rfl; omega; omega) | (apply w_mx2; rfl; rfl) | (apply w_mn2; rfl; rfl) | (apply w_ext; rfl; rfl) | apply w_mkf | apply w_mki | (apply w_idx; rfl; rfl; rfl; omega; assumption) | (apply w_idx 0; rfl; rfl; rfl; omega; assumption) | (apply w_nilc; rfl) | (apply w_eqpN; rfl; rfl) | (apply w_eqpS; rfl; rfl) | (apply w_eqpS'; rfl; rfl) | (apply w_eqsN; rfl; rfl) | (apply w_eqsS; rfl; rfl) | (apply w_eqb; rfl; rfl) | (apply w_pickTb; rfl; rfl) | (apply w_pickFb; rfl; rfl) | (apply w_gT; rfl) | (apply w_gF; rfl) | (apply w_ldb 0; rfl; rfl; rfl) | (apply w_ldb 1; rfl; rfl; rfl) | (apply w_ldb 2; rfl; rfl; rfl) | (apply w_ldb 3; rfl; rfl; rfl) | (apply w_ldd; rfl; assumption; rfl) | (apply w_boxa; rfl; intro _ _) | (apply w_alo; intro _ _) | (apply w_bld; rfl) | (apply w_cap; rfl) | apply w_done0 | apply w_done | apply w_bar | refine w_gdT rfl (by omega) ?_ | refine w_gdF rfl (by omega) ?_ | (apply w_gbT; rfl; assumption) | (apply w_gbF; rfl; assumption) | (apply w_gFp; rfl) | apply w_sq | apply w_reg | apply w_skip | (apply w_ifT; rfl) | (apply w_ifF; rfl) | apply w_block | apply w_ret | apply w_exit | apply w_drawn | refine w_ifdT rfl (by omega) ?_ | refine w_ifdF rfl (by omega) ?_ | (apply w_ifbT; rfl; assumption) | (apply w_ifbF; rfl; assumption)))
  refine w_loopN (α := Nat) (fun i => [(0, .int .i64 k), (13, .slice (some ⟨b2, 0, none⟩) 2 2), (14, .int .i64 2), (15, .int .i64 i)]) (fun _ => [bx b2 T2 [.pointer none, .pointer (some ⟨b, 0, none⟩)]])
    (fun i => i ≤ 2) (fun i => 2 - i) 0 ⟨rfl, rfl, rfl, rfl, trivial⟩ rfl (by omega) ?_
  intro i ρ hi
  obtain rfl | rfl | rfl : i = 0 ∨ i = 1 ∨ i = 2 := by omega
  · have hN : Nob d1 (.pointer none) := (.inl rfl)
    (repeat (first | (apply w_mvi; rfl) | (apply w_mvb; rfl) | (apply w_mvs; rfl) | (apply w_mvp; rfl) | (apply w_mvt; rfl) | (apply w_mva; rfl) | (apply w_mvu; rfl) | (apply w_mvf; rfl) | apply w_mv | (apply w_fld; rfl) | (apply w_ld; rfl; (first | exact hc_i 0 rfl rfl | exact hc_i 1 rfl rfl | exact hc_i 2 rfl rfl | exact hc_i 3 rfl rfl | exact hc_i 4 rfl rfl | exact hc_d (by assumption) | exact hc_ds (by assumption) rfl | exact hc_ds0 (by assumption) rfl)) | (apply w_len; rfl) | (apply w_lens; rfl) | (apply w_lss; rfl; rfl) | (apply w_leq; rfl; rfl) | (apply w_gtr; rfl; rfl) | (apply w_geq; rfl; rfl) | (apply w_eql; rfl; rfl) | (apply w_neq; rfl; rfl) | (apply w_seq; rfl; rfl) | (apply w_sne; rfl; rfl) | (apply w_slt; rfl; rfl) | (apply w_sle; rfl; rfl) | (apply w_sgt; rfl; rfl) | (apply w_sge; rfl; rfl) | (apply w_add; rfl; rfl; omega; omega) | (apply w_sub; rfl; rfl; omega; omega) | (apply w_mul; rfl; rfl; omega; omega) | (apply w_quo; rfl; rfl; omega; omega; omega) | (apply w_rem; rfl; rfl; omega; omega) | (apply w_not; rfl) | (apply w_neg; rfl; omega; omega) | (apply w_cvi64; rfl; omega; omega) | (apply w_cvi8; rfl; omega; omega) | (apply w_mx2; rfl; rfl) | (apply w_mn2; rfl; rfl) | (apply w_ext; rfl; rfl) | apply w_mkf | apply w_mki | (apply w_idx; rfl; rfl; rfl; omega; assumption) | (apply w_idx 0; rfl; rfl; rfl; omega; assumption) | (apply w_nilc; rfl) | (apply w_eqpN; rfl; rfl) | (apply w_eqpS; rfl; rfl) | (apply w_eqpS'; rfl; rfl) | (apply w_eqsN; rfl; rfl) | (apply w_eqsS; rfl; rfl) | (apply w_eqb; rfl; rfl) | (apply w_pickTb; rfl; rfl) | (apply w_pickFb; rfl; rfl) | (apply w_gT; rfl) | (apply w_gF; rfl) | (apply w_ldb 0; rfl; rfl; rfl) | (apply w_ldb 1; rfl; rfl; rfl) | (apply w_ldb 2; rfl; rfl; rfl) | (apply w_ldb 3; rfl; rfl; rfl) | (apply w_ldd; rfl; assumption; rfl) | (apply w_boxa; rfl; intro _ _) | (apply w_alo; intro _ _) | (apply w_bld; rfl) | (apply w_cap; rfl) | apply w_done0 | apply w_done | apply w_bar | refine w_gdT rfl (by omega) ?_ | refine w_gdF rfl (by omega) ?_ | (apply w_gbT; rfl; assumption) | (apply w_gbF; rfl; assumption) | (apply w_gFp; rfl) | apply w_sq | apply w_reg | apply w_skip | (apply w_ifT; rfl) | (apply w_ifF; rfl) | apply w_block | apply w_ret | apply w_exit | apply w_drawn | refine w_ifdT rfl (by omega) ?_ | refine w_ifdF rfl (by omega) ?_ | (apply w_ifbT; rfl; assumption) | (apply w_ifbF; rfl; assumption)))
    refine (w_idx (a := some ⟨b2, 0, none⟩) 0) rfl rfl rfl (by omega) (SAd.some 2 b2 0) ?_
    (repeat (first | (apply w_mvi; rfl) | (apply w_mvb; rfl) | (apply w_mvs; rfl) | (apply w_mvp; rfl) | (apply w_mvt; rfl) | (apply w_mva; rfl) | (apply w_mvu; rfl) | (apply w_mvf; rfl) | apply w_mv | (apply w_fld; rfl) | (apply w_ld; rfl; (first | exact hc_i 0 rfl rfl | exact hc_i 1 rfl rfl | exact hc_i 2 rfl rfl | exact hc_i 3 rfl rfl | exact hc_i 4 rfl rfl | exact hc_d (by assumption) | exact hc_ds (by assumption) rfl | exact hc_ds0 (by assumption) rfl)) | (apply w_len; rfl) | (apply w_lens; rfl) | (apply w_lss; rfl; rfl) | (apply w_leq; rfl; rfl) | (apply w_gtr; rfl; rfl) | (apply w_geq; rfl; rfl) | (apply w_eql; rfl; rfl) | (apply w_neq; rfl; rfl) | (apply w_seq; rfl; rfl) | (apply w_sne; rfl; rfl) | (apply w_slt; rfl; rfl) | (apply w_sle; rfl; rfl) | (apply w_sgt; rfl; rfl) | (apply w_sge; rfl; rfl) | (apply w_add; rfl; rfl; omega; omega) | (apply w_sub; rfl; rfl; omega; omega) | (apply w_mul; rfl; rfl; omega; omega) | (apply w_quo; rfl; rfl; omega; omega; omega) | (apply w_rem; rfl; rfl; omega; omega) | (apply w_not; rfl) | (apply w_neg; rfl; omega; omega) | (apply w_cvi64; rfl; omega; omega) | (apply w_cvi8; rfl; omega; omega) | (apply w_mx2; rfl; rfl) | (apply w_mn2; rfl; rfl) | (apply w_ext; rfl; rfl) | apply w_mkf | apply w_mki | (apply w_idx; rfl; rfl; rfl; omega; assumption) | (apply w_idx 0; rfl; rfl; rfl; omega; assumption) | (apply w_nilc; rfl) | (apply w_eqpN; rfl; rfl) | (apply w_eqpS; rfl; rfl) | (apply w_eqpS'; rfl; rfl) | (apply w_eqsN; rfl; rfl) | (apply w_eqsS; rfl; rfl) | (apply w_eqb; rfl; rfl) | (apply w_pickTb; rfl; rfl) | (apply w_pickFb; rfl; rfl) | (apply w_gT; rfl) | (apply w_gF; rfl) | (apply w_ldb 0; rfl; rfl; rfl) | (apply w_ldb 1; rfl; rfl; rfl) | (apply w_ldb 2; rfl; rfl; rfl) | (apply w_ldb 3; rfl; rfl; rfl) | (apply w_ldd; rfl; assumption; rfl) | (apply w_boxa; rfl; intro _ _) | (apply w_alo; intro _ _) | (apply w_bld; rfl) | (apply w_cap; rfl) | apply w_done0 | apply w_done | apply w_bar | refine w_gdT rfl (by omega) ?_ | refine w_gdF rfl (by omega) ?_ | (apply w_gbT; rfl; assumption) | (apply w_gbF; rfl; assumption) | (apply w_gFp; rfl) | apply w_sq | apply w_reg | apply w_skip | (apply w_ifT; rfl) | (apply w_ifF; rfl) | apply w_block | apply w_ret | apply w_exit | apply w_drawn | refine w_ifdT rfl (by omega) ?_ | refine w_ifdF rfl (by omega) ?_ | (apply w_ifbT; rfl; assumption) | (apply w_ifbF; rfl; assumption)))
    refine w_pure rfl (get_nob h1 hn hN) ?_
    (repeat (first | (apply w_mvi; rfl) | (apply w_mvb; rfl) | (apply w_mvs; rfl) | (apply w_mvp; rfl) | (apply w_mvt; rfl) | (apply w_mva; rfl) | (apply w_mvu; rfl) | (apply w_mvf; rfl) | apply w_mv | (apply w_fld; rfl) | (apply w_ld; rfl; (first | exact hc_i 0 rfl rfl | exact hc_i 1 rfl rfl | exact hc_i 2 rfl rfl | exact hc_i 3 rfl rfl | exact hc_i 4 rfl rfl | exact hc_d (by assumption) | exact hc_ds (by assumption) rfl | exact hc_ds0 (by assumption) rfl)) | (apply w_len; rfl) | (apply w_lens; rfl) | (apply w_lss; rfl; rfl) | (apply w_leq; rfl; rfl) | (apply w_gtr; rfl; rfl) | (apply w_geq; rfl; rfl) | (apply w_eql; rfl; rfl) | (apply w_neq; rfl; rfl) | (apply w_seq; rfl; rfl) | (apply w_sne; rfl; rfl) | (apply w_slt; rfl; rfl) | (apply w_sle; rfl; rfl) | (apply w_sgt; rfl; rfl) | (apply w_sge; rfl; rfl) | (apply w_add; rfl; rfl; omega; omega) | (apply w_sub; rfl; rfl; omega; omega) | (apply w_mul; rfl; rfl; omega; omega) | (apply w_quo; rfl; rfl; omega; omega; omega) | (apply w_rem; rfl; rfl; omega; omega) | (apply w_not; rfl) | (apply w_neg; rfl; omega; omega) | (apply w_cvi64; rfl; omega; omega) | (apply w_cvi8; rfl; omega; omega) | (apply w_mx2; rfl; rfl) | (apply w_mn2; rfl; rfl) | (apply w_ext; rfl; rfl) | apply w_mkf | apply w_mki | (apply w_idx; rfl; rfl; rfl; omega; assumption) | (apply w_idx 0; rfl; rfl; rfl; omega; assumption) | (apply w_nilc; rfl) | (apply w_eqpN; rfl; rfl) | (apply w_eqpS; rfl; rfl) | (apply w_eqpS'; rfl; rfl) | (apply w_eqsN; rfl; rfl) | (apply w_eqsS; rfl; rfl) | (apply w_eqb; rfl; rfl) | (apply w_pickTb; rfl; rfl) | (apply w_pickFb; rfl; rfl) | (apply w_gT; rfl) | (apply w_gF; rfl) | (apply w_ldb 0; rfl; rfl; rfl) | (apply w_ldb 1; rfl; rfl; rfl) | (apply w_ldb 2; rfl; rfl; rfl) | (apply w_ldb 3; rfl; rfl; rfl) | (apply w_ldd; rfl; assumption; rfl) | (apply w_boxa; rfl; intro _ _) | (apply w_alo; intro _ _) | (apply w_bld; rfl) | (apply w_cap; rfl) | apply w_done0 | apply w_done | apply w_bar | refine w_gdT rfl (by omega) ?_ | refine w_gdF rfl (by omega) ?_ | (apply w_gbT; rfl; assumption) | (apply w_gbF; rfl; assumption) | (apply w_gFp; rfl) | apply w_sq | apply w_reg | apply w_skip | (apply w_ifT; rfl) | (apply w_ifF; rfl) | apply w_block | apply w_ret | apply w_exit | apply w_drawn | refine w_ifdT rfl (by omega) ?_ | refine w_ifdF rfl (by omega) ?_ | (apply w_ifbT; rfl; assumption) | (apply w_ifbF; rfl; assumption)))
    refine w_pure rfl (leave_nob h2 hn hN) ?_
    (repeat (first | (apply w_mvi; rfl) | (apply w_mvb; rfl) | (apply w_mvs; rfl) | (apply w_mvp; rfl) | (apply w_mvt; rfl) | (apply w_mva; rfl) | (apply w_mvu; rfl) | (apply w_mvf; rfl) | apply w_mv | (apply w_fld; rfl) | (apply w_ld; rfl; (first | exact hc_i 0 rfl rfl | exact hc_i 1 rfl rfl | exact hc_i 2 rfl rfl | exact hc_i 3 rfl rfl | exact hc_i 4 rfl rfl | exact hc_d (by assumption) | exact hc_ds (by assumption) rfl | exact hc_ds0 (by assumption) rfl)) | (apply w_len; rfl) | (apply w_lens; rfl) | (apply w_lss; rfl; rfl) | (apply w_leq; rfl; rfl) | (apply w_gtr; rfl; rfl) | (apply w_geq; rfl; rfl) | (apply w_eql; rfl; rfl) | (apply w_neq; rfl; rfl) | (apply w_seq; rfl; rfl) | (apply w_sne; rfl; rfl) | (apply w_slt; rfl; rfl) | (apply w_sle; rfl; rfl) | (apply w_sgt; rfl; rfl) | (apply w_sge; rfl; rfl) | (apply w_add; rfl; rfl; omega; omega) | (apply w_sub; rfl; rfl; omega; omega) | (apply w_mul; rfl; rfl; omega; omega) | (apply w_quo; rfl; rfl; omega; omega; omega) | (apply w_rem; rfl; rfl; omega; omega) | (apply w_not; rfl) | (apply w_neg; rfl; omega; omega) | (apply w_cvi64; rfl; omega; omega) | (apply w_cvi8; rfl; omega; omega) | (apply w_mx2; rfl; rfl) | (apply w_mn2; rfl; rfl) | (apply w_ext; rfl; rfl) | apply w_mkf | apply w_mki | (apply w_idx; rfl; rfl; rfl; omega; assumption) | (apply w_idx 0; rfl; rfl; rfl; omega; assumption) | (apply w_nilc; rfl) | (apply w_eqpN; rfl; rfl) | (apply w_eqpS; rfl; rfl) | (apply w_eqpS'; rfl; rfl) | (apply w_eqsN; rfl; rfl) | (apply w_eqsS; rfl; rfl) | (apply w_eqb; rfl; rfl) | (apply w_pickTb; rfl; rfl) | (apply w_pickFb; rfl; rfl) | (apply w_gT; rfl) | (apply w_gF; rfl) | (apply w_ldb 0; rfl; rfl; rfl) | (apply w_ldb 1; rfl; rfl; rfl) | (apply w_ldb 2; rfl; rfl; rfl) | (apply w_ldb 3; rfl; rfl; rfl) | (apply w_ldd; rfl; assumption; rfl) | (apply w_boxa; rfl; intro _ _) | (apply w_alo; intro _ _) | (apply w_bld; rfl) | (apply w_cap; rfl) | apply w_done0 | apply w_done | apply w_bar | refine w_gdT rfl (by omega) ?_ | refine w_gdF rfl (by omega) ?_ | (apply w_gbT; rfl; assumption) | (apply w_gbF; rfl; assumption) | (apply w_gFp; rfl) | apply w_sq | apply w_reg | apply w_skip | (apply w_ifT; rfl) | (apply w_ifF; rfl) | apply w_block | apply w_ret | apply w_exit | apply w_drawn | refine w_ifdT rfl (by omega) ?_ | refine w_ifdF rfl (by omega) ?_ | (apply w_ifbT; rfl; assumption) | (apply w_ifbF; rfl; assumption)))
    refine w_pure rfl (forget_nob h3 hn hN) ?_
    (repeat (first | (apply w_mvi; rfl) | (apply w_mvb; rfl) | (apply w_mvs; rfl) | (apply w_mvp; rfl) | (apply w_mvt; rfl) | (apply w_mva; rfl) | (apply w_mvu; rfl) | (apply w_mvf; rfl) | apply w_mv | (apply w_fld; rfl) | (apply w_ld; rfl; (first | exact hc_i 0 rfl rfl | exact hc_i 1 rfl rfl | exact hc_i 2 rfl rfl | exact hc_i 3 rfl rfl | exact hc_i 4 rfl rfl | exact hc_d (by assumption) | exact hc_ds (by assumption) rfl | exact hc_ds0 (by assumption) rfl)) | (apply w_len; rfl) | (apply w_lens; rfl) | (apply w_lss; rfl; rfl) | (apply w_leq; rfl; rfl) | (apply w_gtr; rfl; rfl) | (apply w_geq; rfl; rfl) | (apply w_eql; rfl; rfl) | (apply w_neq; rfl; rfl) | (apply w_seq; rfl; rfl) | (apply w_sne; rfl; rfl) | (apply w_slt; rfl; rfl) | (apply w_sle; rfl; rfl) | (apply w_sgt; rfl; rfl) | (apply w_sge; rfl; rfl) | (apply w_add; rfl; rfl; omega; omega) | (apply w_sub; rfl; rfl; omega; omega) | (apply w_mul; rfl; rfl; omega; omega) | (apply w_quo; rfl; rfl; omega; omega; omega) | (apply w_rem; rfl; rfl; omega; omega) | (apply w_not; rfl) | (apply w_neg; rfl; omega; omega) | (apply w_cvi64; rfl; omega; omega) | (apply w_cvi8; rfl; omega; omega) | (apply w_mx2; rfl; rfl) | (apply w_mn2; rfl; rfl) | (apply w_ext; rfl; rfl) | apply w_mkf | apply w_mki | (apply w_idx; rfl; rfl; rfl; omega; assumption) | (apply w_idx 0; rfl; rfl; rfl; omega; assumption) | (apply w_nilc; rfl) | (apply w_eqpN; rfl; rfl) | (apply w_eqpS; rfl; rfl) | (apply w_eqpS'; rfl; rfl) | (apply w_eqsN; rfl; rfl) | (apply w_eqsS; rfl; rfl) | (apply w_eqb; rfl; rfl) | (apply w_pickTb; rfl; rfl) | (apply w_pickFb; rfl; rfl) | (apply w_gT; rfl) | (apply w_gF; rfl) | (apply w_ldb 0; rfl; rfl; rfl) | (apply w_ldb 1; rfl; rfl; rfl) | (apply w_ldb 2; rfl; rfl; rfl) | (apply w_ldb 3; rfl; rfl; rfl) | (apply w_ldd; rfl; assumption; rfl) | (apply w_boxa; rfl; intro _ _) | (apply w_alo; intro _ _) | (apply w_bld; rfl) | (apply w_cap; rfl) | apply w_done0 | apply w_done | apply w_bar | refine w_gdT rfl (by omega) ?_ | refine w_gdF rfl (by omega) ?_ | (apply w_gbT; rfl; assumption) | (apply w_gbF; rfl; assumption) | (apply w_gFp; rfl) | apply w_sq | apply w_reg | apply w_skip | (apply w_ifT; rfl) | (apply w_ifF; rfl) | apply w_block | apply w_ret | apply w_exit | apply w_drawn | refine w_ifdT rfl (by omega) ?_ | refine w_ifdF rfl (by omega) ?_ | (apply w_ifbT; rfl; assumption) | (apply w_ifbF; rfl; assumption)))
    refine w_pure rfl (held_nob h4 hn hN) ?_
    (repeat (first | (apply w_mvi; rfl) | (apply w_mvb; rfl) | (apply w_mvs; rfl) | (apply w_mvp; rfl) | (apply w_mvt; rfl) | (apply w_mva; rfl) | (apply w_mvu; rfl) | (apply w_mvf; rfl) | apply w_mv | (apply w_fld; rfl) | (apply w_ld; rfl; (first | exact hc_i 0 rfl rfl | exact hc_i 1 rfl rfl | exact hc_i 2 rfl rfl | exact hc_i 3 rfl rfl | exact hc_i 4 rfl rfl | exact hc_d (by assumption) | exact hc_ds (by assumption) rfl | exact hc_ds0 (by assumption) rfl)) | (apply w_len; rfl) | (apply w_lens; rfl) | (apply w_lss; rfl; rfl) | (apply w_leq; rfl; rfl) | (apply w_gtr; rfl; rfl) | (apply w_geq; rfl; rfl) | (apply w_eql; rfl; rfl) | (apply w_neq; rfl; rfl) | (apply w_seq; rfl; rfl) | (apply w_sne; rfl; rfl) | (apply w_slt; rfl; rfl) | (apply w_sle; rfl; rfl) | (apply w_sgt; rfl; rfl) | (apply w_sge; rfl; rfl) | (apply w_add; rfl; rfl; omega; omega) | (apply w_sub; rfl; rfl; omega; omega) | (apply w_mul; rfl; rfl; omega; omega) | (apply w_quo; rfl; rfl; omega; omega; omega) | (apply w_rem; rfl; rfl; omega; omega) | (apply w_not; rfl) | (apply w_neg; rfl; omega; omega) | (apply w_cvi64; rfl; omega; omega) | (apply w_cvi8; rfl; omega; omega) | (apply w_mx2; rfl; rfl) | (apply w_mn2; rfl; rfl) | (apply w_ext; rfl; rfl) | apply w_mkf | apply w_mki | (apply w_idx; rfl; rfl; rfl; omega; assumption) | (apply w_idx 0; rfl; rfl; rfl; omega; assumption) | (apply w_nilc; rfl) | (apply w_eqpN; rfl; rfl) | (apply w_eqpS; rfl; rfl) | (apply w_eqpS'; rfl; rfl) | (apply w_eqsN; rfl; rfl) | (apply w_eqsS; rfl; rfl) | (apply w_eqb; rfl; rfl) | (apply w_pickTb; rfl; rfl) | (apply w_pickFb; rfl; rfl) | (apply w_gT; rfl) | (apply w_gF; rfl) | (apply w_ldb 0; rfl; rfl; rfl) | (apply w_ldb 1; rfl; rfl; rfl) | (apply w_ldb 2; rfl; rfl; rfl) | (apply w_ldb 3; rfl; rfl; rfl) | (apply w_ldd; rfl; assumption; rfl) | (apply w_boxa; rfl; intro _ _) | (apply w_alo; intro _ _) | (apply w_bld; rfl) | (apply w_cap; rfl) | apply w_done0 | apply w_done | apply w_bar | refine w_gdT rfl (by omega) ?_ | refine w_gdF rfl (by omega) ?_ | (apply w_gbT; rfl; assumption) | (apply w_gbF; rfl; assumption) | (apply w_gFp; rfl) | apply w_sq | apply w_reg | apply w_skip | (apply w_ifT; rfl) | (apply w_ifF; rfl) | apply w_block | apply w_ret | apply w_exit | apply w_drawn | refine w_ifdT rfl (by omega) ?_ | refine w_ifdF rfl (by omega) ?_ | (apply w_ifbT; rfl; assumption) | (apply w_ifbF; rfl; assumption)))
    refine w_pure rfl (hits_nob h5 hn hN) ?_
    (repeat (first | (apply w_mvi; rfl) | (apply w_mvb; rfl) | (apply w_mvs; rfl) | (apply w_mvp; rfl) | (apply w_mvt; rfl) | (apply w_mva; rfl) | (apply w_mvu; rfl) | (apply w_mvf; rfl) | apply w_mv | (apply w_fld; rfl) | (apply w_ld; rfl; (first | exact hc_i 0 rfl rfl | exact hc_i 1 rfl rfl | exact hc_i 2 rfl rfl | exact hc_i 3 rfl rfl | exact hc_i 4 rfl rfl | exact hc_d (by assumption) | exact hc_ds (by assumption) rfl | exact hc_ds0 (by assumption) rfl)) | (apply w_len; rfl) | (apply w_lens; rfl) | (apply w_lss; rfl; rfl) | (apply w_leq; rfl; rfl) | (apply w_gtr; rfl; rfl) | (apply w_geq; rfl; rfl) | (apply w_eql; rfl; rfl) | (apply w_neq; rfl; rfl) | (apply w_seq; rfl; rfl) | (apply w_sne; rfl; rfl) | (apply w_slt; rfl; rfl) | (apply w_sle; rfl; rfl) | (apply w_sgt; rfl; rfl) | (apply w_sge; rfl; rfl) | (apply w_add; rfl; rfl; omega; omega) | (apply w_sub; rfl; rfl; omega; omega) | (apply w_mul; rfl; rfl; omega; omega) | (apply w_quo; rfl; rfl; omega; omega; omega) | (apply w_rem; rfl; rfl; omega; omega) | (apply w_not; rfl) | (apply w_neg; rfl; omega; omega) | (apply w_cvi64; rfl; omega; omega) | (apply w_cvi8; rfl; omega; omega) | (apply w_mx2; rfl; rfl) | (apply w_mn2; rfl; rfl) | (apply w_ext; rfl; rfl) | apply w_mkf | apply w_mki | (apply w_idx; rfl; rfl; rfl; omega; assumption) | (apply w_idx 0; rfl; rfl; rfl; omega; assumption) | (apply w_nilc; rfl) | (apply w_eqpN; rfl; rfl) | (apply w_eqpS; rfl; rfl) | (apply w_eqpS'; rfl; rfl) | (apply w_eqsN; rfl; rfl) | (apply w_eqsS; rfl; rfl) | (apply w_eqb; rfl; rfl) | (apply w_pickTb; rfl; rfl) | (apply w_pickFb; rfl; rfl) | (apply w_gT; rfl) | (apply w_gF; rfl) | (apply w_ldb 0; rfl; rfl; rfl) | (apply w_ldb 1; rfl; rfl; rfl) | (apply w_ldb 2; rfl; rfl; rfl) | (apply w_ldb 3; rfl; rfl; rfl) | (apply w_ldd; rfl; assumption; rfl) | (apply w_boxa; rfl; intro _ _) | (apply w_alo; intro _ _) | (apply w_bld; rfl) | (apply w_cap; rfl) | apply w_done0 | apply w_done | apply w_bar | refine w_gdT rfl (by omega) ?_ | refine w_gdF rfl (by omega) ?_ | (apply w_gbT; rfl; assumption) | (apply w_gbF; rfl; assumption) | (apply w_gFp; rfl) | apply w_sq | apply w_reg | apply w_skip | (apply w_ifT; rfl) | (apply w_ifF; rfl) | apply w_block | apply w_ret | apply w_exit | apply w_drawn | refine w_ifdT rfl (by omega) ?_ | refine w_ifdF rfl (by omega) ?_ | (apply w_ifbT; rfl; assumption) | (apply w_ifbF; rfl; assumption)))
    refine w_pure rfl (misses_nob h6 hn hN) ?_
    (repeat (first | (apply w_mvi; rfl) | (apply w_mvb; rfl) | (apply w_mvs; rfl) | (apply w_mvp; rfl) | (apply w_mvt; rfl) | (apply w_mva; rfl) | (apply w_mvu; rfl) | (apply w_mvf; rfl) | apply w_mv | (apply w_fld; rfl) | (apply w_ld; rfl; (first | exact hc_i 0 rfl rfl | exact hc_i 1 rfl rfl | exact hc_i 2 rfl rfl | exact hc_i 3 rfl rfl | exact hc_i 4 rfl rfl | exact hc_d (by assumption) | exact hc_ds (by assumption) rfl | exact hc_ds0 (by assumption) rfl)) | (apply w_len; rfl) | (apply w_lens; rfl) | (apply w_lss; rfl; rfl) | (apply w_leq; rfl; rfl) | (apply w_gtr; rfl; rfl) | (apply w_geq; rfl; rfl) | (apply w_eql; rfl; rfl) | (apply w_neq; rfl; rfl) | (apply w_seq; rfl; rfl) | (apply w_sne; rfl; rfl) | (apply w_slt; rfl; rfl) | (apply w_sle; rfl; rfl) | (apply w_sgt; rfl; rfl) | (apply w_sge; rfl; rfl) | (apply w_add; rfl; rfl; omega; omega) | (apply w_sub; rfl; rfl; omega; omega) | (apply w_mul; rfl; rfl; omega; omega) | (apply w_quo; rfl; rfl; omega; omega; omega) | (apply w_rem; rfl; rfl; omega; omega) | (apply w_not; rfl) | (apply w_neg; rfl; omega; omega) | (apply w_cvi64; rfl; omega; omega) | (apply w_cvi8; rfl; omega; omega) | (apply w_mx2; rfl; rfl) | (apply w_mn2; rfl; rfl) | (apply w_ext; rfl; rfl) | apply w_mkf | apply w_mki | (apply w_idx; rfl; rfl; rfl; omega; assumption) | (apply w_idx 0; rfl; rfl; rfl; omega; assumption) | (apply w_nilc; rfl) | (apply w_eqpN; rfl; rfl) | (apply w_eqpS; rfl; rfl) | (apply w_eqpS'; rfl; rfl) | (apply w_eqsN; rfl; rfl) | (apply w_eqsS; rfl; rfl) | (apply w_eqb; rfl; rfl) | (apply w_pickTb; rfl; rfl) | (apply w_pickFb; rfl; rfl) | (apply w_gT; rfl) | (apply w_gF; rfl) | (apply w_ldb 0; rfl; rfl; rfl) | (apply w_ldb 1; rfl; rfl; rfl) | (apply w_ldb 2; rfl; rfl; rfl) | (apply w_ldb 3; rfl; rfl; rfl) | (apply w_ldd; rfl; assumption; rfl) | (apply w_boxa; rfl; intro _ _) | (apply w_alo; intro _ _) | (apply w_bld; rfl) | (apply w_cap; rfl) | apply w_done0 | apply w_done | apply w_bar | refine w_gdT rfl (by omega) ?_ | refine w_gdF rfl (by omega) ?_ | (apply w_gbT; rfl; assumption) | (apply w_gbF; rfl; assumption) | (apply w_gFp; rfl) | apply w_sq | apply w_reg | apply w_skip | (apply w_ifT; rfl) | (apply w_ifF; rfl) | apply w_block | apply w_ret | apply w_exit | apply w_drawn | refine w_ifdT rfl (by omega) ?_ | refine w_ifdF rfl (by omega) ?_ | (apply w_ifbT; rfl; assumption) | (apply w_ifbF; rfl; assumption)))
    exact ⟨0 + 1, by omega, ⟨rfl, rfl, rfl, rfl, trivial⟩, rfl, rfl, by omega⟩
  · have hN : Nob d1 ((.pointer (some ⟨b, 0, none⟩))) := (.inr ⟨b, rfl, hb1.at (i := 0) rfl⟩)
    (repeat (first | (apply w_mvi; rfl) | (apply w_mvb; rfl) | (apply w_mvs; rfl) | (apply w_mvp; rfl) | (apply w_mvt; rfl) | (apply w_mva; rfl) | (apply w_mvu; rfl) | (apply w_mvf; rfl) | apply w_mv | (apply w_fld; rfl) | (apply w_ld; rfl; (first | exact hc_i 0 rfl rfl | exact hc_i 1 rfl rfl | exact hc_i 2 rfl rfl | exact hc_i 3 rfl rfl | exact hc_i 4 rfl rfl | exact hc_d (by assumption) | exact hc_ds (by assumption) rfl | exact hc_ds0 (by assumption) rfl)) | (apply w_len; rfl) | (apply w_lens; rfl) | (apply w_lss; rfl; rfl) | (apply w_leq; rfl; rfl) | (apply w_gtr; rfl; rfl) | (apply w_geq; rfl; rfl) | (apply w_eql; rfl; rfl) | (apply w_neq; rfl; rfl) | (apply w_seq; rfl; rfl) | (apply w_sne; rfl; rfl) | (apply w_slt; rfl; rfl) | (apply w_sle; rfl; rfl) | (apply w_sgt; rfl; rfl) | (apply w_sge; rfl; rfl) | (apply w_add; rfl; rfl; omega; omega) | (apply w_sub; rfl; rfl; omega; omega) | (apply w_mul; rfl; rfl; omega; omega) | (apply w_quo; rfl; rfl; omega; omega; omega) | (apply w_rem; rfl; rfl; omega; omega) | (apply w_not; rfl) | (apply w_neg; rfl; omega; omega) | (apply w_cvi64; rfl; omega; omega) | (apply w_cvi8; rfl; omega; omega) | (apply w_mx2; rfl; rfl) | (apply w_mn2; rfl; rfl) | (apply w_ext; rfl; rfl) | apply w_mkf | apply w_mki | (apply w_idx; rfl; rfl; rfl; omega; assumption) | (apply w_idx 0; rfl; rfl; rfl; omega; assumption) | (apply w_nilc; rfl) | (apply w_eqpN; rfl; rfl) | (apply w_eqpS; rfl; rfl) | (apply w_eqpS'; rfl; rfl) | (apply w_eqsN; rfl; rfl) | (apply w_eqsS; rfl; rfl) | (apply w_eqb; rfl; rfl) | (apply w_pickTb; rfl; rfl) | (apply w_pickFb; rfl; rfl) | (apply w_gT; rfl) | (apply w_gF; rfl) | (apply w_ldb 0; rfl; rfl; rfl) | (apply w_ldb 1; rfl; rfl; rfl) | (apply w_ldb 2; rfl; rfl; rfl) | (apply w_ldb 3; rfl; rfl; rfl) | (apply w_ldd; rfl; assumption; rfl) | (apply w_boxa; rfl; intro _ _) | (apply w_alo; intro _ _) | (apply w_bld; rfl) | (apply w_cap; rfl) | apply w_done0 | apply w_done | apply w_bar | refine w_gdT rfl (by omega) ?_ | refine w_gdF rfl (by omega) ?_ | (apply w_gbT; rfl; assumption) | (apply w_gbF; rfl; assumption) | (apply w_gFp; rfl) | apply w_sq | apply w_reg | apply w_skip | (apply w_ifT; rfl) | (apply w_ifF; rfl) | apply w_block | apply w_ret | apply w_exit | apply w_drawn | refine w_ifdT rfl (by omega) ?_ | refine w_ifdF rfl (by omega) ?_ | (apply w_ifbT; rfl; assumption) | (apply w_ifbF; rfl; assumption)))
    refine (w_idx (a := some ⟨b2, 0, none⟩) 1) rfl rfl rfl (by omega) (SAd.some 2 b2 0) ?_
    (repeat (first | (apply w_mvi; rfl) | (apply w_mvb; rfl) | (apply w_mvs; rfl) | (apply w_mvp; rfl) | (apply w_mvt; rfl) | (apply w_mva; rfl) | (apply w_mvu; rfl) | (apply w_mvf; rfl) | apply w_mv | (apply w_fld; rfl) | (apply w_ld; rfl; (first | exact hc_i 0 rfl rfl | exact hc_i 1 rfl rfl | exact hc_i 2 rfl rfl | exact hc_i 3 rfl rfl | exact hc_i 4 rfl rfl | exact hc_d (by assumption) | exact hc_ds (by assumption) rfl | exact hc_ds0 (by assumption) rfl)) | (apply w_len; rfl) | (apply w_lens; rfl) | (apply w_lss; rfl; rfl) | (apply w_leq; rfl; rfl) | (apply w_gtr; rfl; rfl) | (apply w_geq; rfl; rfl) | (apply w_eql; rfl; rfl) | (apply w_neq; rfl; rfl) | (apply w_seq; rfl; rfl) | (apply w_sne; rfl; rfl) | (apply w_slt; rfl; rfl) | (apply w_sle; rfl; rfl) | (apply w_sgt; rfl; rfl) | (apply w_sge; rfl; rfl) | (apply w_add; rfl; rfl; omega; omega) | (apply w_sub; rfl; rfl; omega; omega) | (apply w_mul; rfl; rfl; omega; omega) | (apply w_quo; rfl; rfl; omega; omega; omega) | (apply w_rem; rfl; rfl; omega; omega) | (apply w_not; rfl) | (apply w_neg; rfl; omega; omega) | (apply w_cvi64; rfl; omega; omega) | (apply w_cvi8; rfl; omega; omega) | (apply w_mx2; rfl; rfl) | (apply w_mn2; rfl; rfl) | (apply w_ext; rfl; rfl) | apply w_mkf | apply w_mki | (apply w_idx; rfl; rfl; rfl; omega; assumption) | (apply w_idx 0; rfl; rfl; rfl; omega; assumption) | (apply w_nilc; rfl) | (apply w_eqpN; rfl; rfl) | (apply w_eqpS; rfl; rfl) | (apply w_eqpS'; rfl; rfl) | (apply w_eqsN; rfl; rfl) | (apply w_eqsS; rfl; rfl) | (apply w_eqb; rfl; rfl) | (apply w_pickTb; rfl; rfl) | (apply w_pickFb; rfl; rfl) | (apply w_gT; rfl) | (apply w_gF; rfl) | (apply w_ldb 0; rfl; rfl; rfl) | (apply w_ldb 1; rfl; rfl; rfl) | (apply w_ldb 2; rfl; rfl; rfl) | (apply w_ldb 3; rfl; rfl; rfl) | (apply w_ldd; rfl; assumption; rfl) | (apply w_boxa; rfl; intro _ _) | (apply w_alo; intro _ _) | (apply w_bld; rfl) | (apply w_cap; rfl) | apply w_done0 | apply w_done | apply w_bar | refine w_gdT rfl (by omega) ?_ | refine w_gdF rfl (by omega) ?_ | (apply w_gbT; rfl; assumption) | (apply w_gbF; rfl; assumption) | (apply w_gFp; rfl) | apply w_sq | apply w_reg | apply w_skip | (apply w_ifT; rfl) | (apply w_ifF; rfl) | apply w_block | apply w_ret | apply w_exit | apply w_drawn | refine w_ifdT rfl (by omega) ?_ | refine w_ifdF rfl (by omega) ?_ | (apply w_ifbT; rfl; assumption) | (apply w_ifbF; rfl; assumption)))
    refine w_pure rfl (get_nob h1 hn hN) ?_
    (repeat (first | (apply w_mvi; rfl) | (apply w_mvb; rfl) | (apply w_mvs; rfl) | (apply w_mvp; rfl) | (apply w_mvt; rfl) | (apply w_mva; rfl) | (apply w_mvu; rfl) | (apply w_mvf; rfl) | apply w_mv | (apply w_fld; rfl) | (apply w_ld; rfl; (first | exact hc_i 0 rfl rfl | exact hc_i 1 rfl rfl | exact hc_i 2 rfl rfl | exact hc_i 3 rfl rfl | exact hc_i 4 rfl rfl | exact hc_d (by assumption) | exact hc_ds (by assumption) rfl | exact hc_ds0 (by assumption) rfl)) | (apply w_len; rfl) | (apply w_lens; rfl) | (apply w_lss; rfl; rfl) | (apply w_leq; rfl; rfl) | (apply w_gtr; rfl; rfl) | (apply w_geq; rfl; rfl) | (apply w_eql; rfl; rfl) | (apply w_neq; rfl; rfl) | (apply w_seq; rfl; rfl) | (apply w_sne; rfl; rfl) | (apply w_slt; rfl; rfl) | (apply w_sle; rfl; rfl) | (apply w_sgt; rfl; rfl) | (apply w_sge; rfl; rfl) | (apply w_add; rfl; rfl; omega; omega) | (apply w_sub; rfl; rfl; omega; omega) | (apply w_mul; rfl; rfl; omega; omega) | (apply w_quo; rfl; rfl; omega; omega; omega) | (apply w_rem; rfl; rfl; omega; omega) | (apply w_not; rfl) | (apply w_neg; rfl; omega; omega) | (apply w_cvi64; rfl; omega; omega) | (apply w_cvi8; rfl; omega; omega) | (apply w_mx2; rfl; rfl) | (apply w_mn2; rfl; rfl) | (apply w_ext; rfl; rfl) | apply w_mkf | apply w_mki | (apply w_idx; rfl; rfl; rfl; omega; assumption) | (apply w_idx 0; rfl; rfl; rfl; omega; assumption) | (apply w_nilc; rfl) | (apply w_eqpN; rfl; rfl) | (apply w_eqpS; rfl; rfl) | (apply w_eqpS'; rfl; rfl) | (apply w_eqsN; rfl; rfl) | (apply w_eqsS; rfl; rfl) | (apply w_eqb; rfl; rfl) | (apply w_pickTb; rfl; rfl) | (apply w_pickFb; rfl; rfl) | (apply w_gT; rfl) | (apply w_gF; rfl) | (apply w_ldb 0; rfl; rfl; rfl) | (apply w_ldb 1; rfl; rfl; rfl) | (apply w_ldb 2; rfl; rfl; rfl) | (apply w_ldb 3; rfl; rfl; rfl) | (apply w_ldd; rfl; assumption; rfl) | (apply w_boxa; rfl; intro _ _) | (apply w_alo; intro _ _) | (apply w_bld; rfl) | (apply w_cap; rfl) | apply w_done0 | apply w_done | apply w_bar | refine w_gdT rfl (by omega) ?_ | refine w_gdF rfl (by omega) ?_ | (apply w_gbT; rfl; assumption) | (apply w_gbF; rfl; assumption) | (apply w_gFp; rfl) | apply w_sq | apply w_reg | apply w_skip | (apply w_ifT; rfl) | (apply w_ifF; rfl) | apply w_block | apply w_ret | apply w_exit | apply w_drawn | refine w_ifdT rfl (by omega) ?_ | refine w_ifdF rfl (by omega) ?_ | (apply w_ifbT; rfl; assumption) | (apply w_ifbF; rfl; assumption)))
    refine w_pure rfl (leave_nob h2 hn hN) ?_
    (repeat (first | (apply w_mvi; rfl) | (apply w_mvb; rfl) | (apply w_mvs; rfl) | (apply w_mvp; rfl) | (apply w_mvt; rfl) | (apply w_mva; rfl) | (apply w_mvu; rfl) | (apply w_mvf; rfl) | apply w_mv | (apply w_fld; rfl) | (apply w_ld; rfl; (first | exact hc_i 0 rfl rfl | exact hc_i 1 rfl rfl | exact hc_i 2 rfl rfl | exact hc_i 3 rfl rfl | exact hc_i 4 rfl rfl | exact hc_d (by assumption) | exact hc_ds (by assumption) rfl | exact hc_ds0 (by assumption) rfl)) | (apply w_len; rfl) | (apply w_lens; rfl) | (apply w_lss; rfl; rfl) | (apply w_leq; rfl; rfl) | (apply w_gtr; rfl; rfl) | (apply w_geq; rfl; rfl) | (apply w_eql; rfl; rfl) | (apply w_neq; rfl; rfl) | (apply w_seq; rfl; rfl) | (apply w_sne; rfl; rfl) | (apply w_slt; rfl; rfl) | (apply w_sle; rfl; rfl) | (apply w_sgt; rfl; rfl) | (apply w_sge; rfl; rfl) | (apply w_add; rfl; rfl; omega; omega) | (apply w_sub; rfl; rfl; omega; omega) | (apply w_mul; rfl; rfl; omega; omega) | (apply w_quo; rfl; rfl; omega; omega; omega) | (apply w_rem; rfl; rfl; omega; omega) | (apply w_not; rfl) | (apply w_neg; rfl; omega; omega) | (apply w_cvi64; rfl; omega; omega) | (apply w_cvi8; rfl; omega; omega) | (apply w_mx2; rfl; rfl) | (apply w_mn2; rfl; rfl) | (apply w_ext; rfl; rfl) | apply w_mkf | apply w_mki | (apply w_idx; rfl; rfl; rfl; omega; assumption) | (apply w_idx 0; rfl; rfl; rfl; omega; assumption) | (apply w_nilc; rfl) | (apply w_eqpN; rfl; rfl) | (apply w_eqpS; rfl; rfl) | (apply w_eqpS'; rfl; rfl) | (apply w_eqsN; rfl; rfl) | (apply w_eqsS; rfl; rfl) | (apply w_eqb; rfl; rfl) | (apply w_pickTb; rfl; rfl) | (apply w_pickFb; rfl; rfl) | (apply w_gT; rfl) | (apply w_gF; rfl) | (apply w_ldb 0; rfl; rfl; rfl) | (apply w_ldb 1; rfl; rfl; rfl) | (apply w_ldb 2; rfl; rfl; rfl) | (apply w_ldb 3; rfl; rfl; rfl) | (apply w_ldd; rfl; assumption; rfl) | (apply w_boxa; rfl; intro _ _) | (apply w_alo; intro _ _) | (apply w_bld; rfl) | (apply w_cap; rfl) | apply w_done0 | apply w_done | apply w_bar | refine w_gdT rfl (by omega) ?_ | refine w_gdF rfl (by omega) ?_ | (apply w_gbT; rfl; assumption) | (apply w_gbF; rfl; assumption) | (apply w_gFp; rfl) | apply w_sq | apply w_reg | apply w_skip | (apply w_ifT; rfl) | (apply w_ifF; rfl) | apply w_block | apply w_ret | apply w_exit | apply w_drawn | refine w_ifdT rfl (by omega) ?_ | refine w_ifdF rfl (by omega) ?_ | (apply w_ifbT; rfl; assumption) | (apply w_ifbF; rfl; assumption)))
    refine w_pure rfl (forget_nob h3 hn hN) ?_
    (repeat (first | (apply w_mvi; rfl) | (apply w_mvb; rfl) | (apply w_mvs; rfl) | (apply w_mvp; rfl) | (apply w_mvt; rfl) | (apply w_mva; rfl) | (apply w_mvu; rfl) | (apply w_mvf; rfl) | apply w_mv | (apply w_fld; rfl) | (apply w_ld; rfl; (first | exact hc_i 0 rfl rfl | exact hc_i 1 rfl rfl | exact hc_i 2 rfl rfl | exact hc_i 3 rfl rfl | exact hc_i 4 rfl rfl | exact hc_d (by assumption) | exact hc_ds (by assumption) rfl | exact hc_ds0 (by assumption) rfl)) | (apply w_len; rfl) | (apply w_lens; rfl) | (apply w_lss; rfl; rfl) | (apply w_leq; rfl; rfl) | (apply w_gtr; rfl; rfl) | (apply w_geq; rfl; rfl) | (apply w_eql; rfl; rfl) | (apply w_neq; rfl; rfl) | (apply w_seq; rfl; rfl) | (apply w_sne; rfl; rfl) | (apply w_slt; rfl; rfl) | (apply w_sle; rfl; rfl) | (apply w_sgt; rfl; rfl) | (apply w_sge; rfl; rfl) | (apply w_add; rfl; rfl; omega; omega) | (apply w_sub; rfl; rfl; omega; omega) | (apply w_mul; rfl; rfl; omega; omega) | (apply w_quo; rfl; rfl; omega; omega; omega) | (apply w_rem; rfl; rfl; omega; omega) | (apply w_not; rfl) | (apply w_neg; rfl; omega; omega) | (apply w_cvi64; rfl; omega; omega) | (apply w_cvi8; rfl; omega; omega) | (apply w_mx2; rfl; rfl) | (apply w_mn2; rfl; rfl) | (apply w_ext; rfl; rfl) | apply w_mkf | apply w_mki | (apply w_idx; rfl; rfl; rfl; omega; assumption) | (apply w_idx 0; rfl; rfl; rfl; omega; assumption) | (apply w_nilc; rfl) | (apply w_eqpN; rfl; rfl) | (apply w_eqpS; rfl; rfl) | (apply w_eqpS'; rfl; rfl) | (apply w_eqsN; rfl; rfl) | (apply w_eqsS; rfl; rfl) | (apply w_eqb; rfl; rfl) | (apply w_pickTb; rfl; rfl) | (apply w_pickFb; rfl; rfl) | (apply w_gT; rfl) | (apply w_gF; rfl) | (apply w_ldb 0; rfl; rfl; rfl) | (apply w_ldb 1; rfl; rfl; rfl) | (apply w_ldb 2; rfl; rfl; rfl) | (apply w_ldb 3; rfl; rfl; rfl) | (apply w_ldd; rfl; assumption; rfl) | (apply w_boxa; rfl; intro _ _) | (apply w_alo; intro _ _) | (apply w_bld; rfl) | (apply w_cap; rfl) | apply w_done0 | apply w_done | apply w_bar | refine w_gdT rfl (by omega) ?_ | refine w_gdF rfl (by omega) ?_ | (apply w_gbT; rfl; assumption) | (apply w_gbF; rfl; assumption) | (apply w_gFp; rfl) | apply w_sq | apply w_reg | apply w_skip | (apply w_ifT; rfl) | (apply w_ifF; rfl) | apply w_block | apply w_ret | apply w_exit | apply w_drawn | refine w_ifdT rfl (by omega) ?_ | refine w_ifdF rfl (by omega) ?_ | (apply w_ifbT; rfl; assumption) | (apply w_ifbF; rfl; assumption)))
    refine w_pure rfl (held_nob h4 hn hN) ?_
    (repeat (first | (apply w_mvi; rfl) | (apply w_mvb; rfl) | (apply w_mvs; rfl) | (apply w_mvp; rfl) | (apply w_mvt; rfl) | (apply w_mva; rfl) | (apply w_mvu; rfl) | (apply w_mvf; rfl) | apply w_mv | (apply w_fld; rfl) | (apply w_ld; rfl; (first | exact hc_i 0 rfl rfl | exact hc_i 1 rfl rfl | exact hc_i 2 rfl rfl | exact hc_i 3 rfl rfl | exact hc_i 4 rfl rfl | exact hc_d (by assumption) | exact hc_ds (by assumption) rfl | exact hc_ds0 (by assumption) rfl)) | (apply w_len; rfl) | (apply w_lens; rfl) | (apply w_lss; rfl; rfl) | (apply w_leq; rfl; rfl) | (apply w_gtr; rfl; rfl) | (apply w_geq; rfl; rfl) | (apply w_eql; rfl; rfl) | (apply w_neq; rfl; rfl) | (apply w_seq; rfl; rfl) | (apply w_sne; rfl; rfl) | (apply w_slt; rfl; rfl) | (apply w_sle; rfl; rfl) | (apply w_sgt; rfl; rfl) | (apply w_sge; rfl; rfl) | (apply w_add; rfl; rfl; omega; omega) | (apply w_sub; rfl; rfl; omega; omega) | (apply w_mul; rfl; rfl; omega; omega) | (apply w_quo; rfl; rfl; omega; omega; omega) | (apply w_rem; rfl; rfl; omega; omega) | (apply w_not; rfl) | (apply w_neg; rfl; omega; omega) | (apply w_cvi64; rfl; omega; omega) | (apply w_cvi8; rfl; omega; omega) | (apply w_mx2; rfl; rfl) | (apply w_mn2; rfl; rfl) | (apply w_ext; rfl; rfl) | apply w_mkf | apply w_mki | (apply w_idx; rfl; rfl; rfl; omega; assumption) | (apply w_idx 0; rfl; rfl; rfl; omega; assumption) | (apply w_nilc; rfl) | (apply w_eqpN; rfl; rfl) | (apply w_eqpS; rfl; rfl) | (apply w_eqpS'; rfl; rfl) | (apply w_eqsN; rfl; rfl) | (apply w_eqsS; rfl; rfl) | (apply w_eqb; rfl; rfl) | (apply w_pickTb; rfl; rfl) | (apply w_pickFb; rfl; rfl) | (apply w_gT; rfl) | (apply w_gF; rfl) | (apply w_ldb 0; rfl; rfl; rfl) | (apply w_ldb 1; rfl; rfl; rfl) | (apply w_ldb 2; rfl; rfl; rfl) | (apply w_ldb 3; rfl; rfl; rfl) | (apply w_ldd; rfl; assumption; rfl) | (apply w_boxa; rfl; intro _ _) | (apply w_alo; intro _ _) | (apply w_bld; rfl) | (apply w_cap; rfl) | apply w_done0 | apply w_done | apply w_bar | refine w_gdT rfl (by omega) ?_ | refine w_gdF rfl (by omega) ?_ | (apply w_gbT; rfl; assumption) | (apply w_gbF; rfl; assumption) | (apply w_gFp; rfl) | apply w_sq | apply w_reg | apply w_skip | (apply w_ifT; rfl) | (apply w_ifF; rfl) | apply w_block | apply w_ret | apply w_exit | apply w_drawn | refine w_ifdT rfl (by omega) ?_ | refine w_ifdF rfl (by omega) ?_ | (apply w_ifbT; rfl; assumption) | (apply w_ifbF; rfl; assumption)))
    refine w_pure rfl (hits_nob h5 hn hN) ?_
    (repeat (first | (apply w_mvi; rfl) | (apply w_mvb; rfl) | (apply w_mvs; rfl) | (apply w_mvp; rfl) | (apply w_mvt; rfl) | (apply w_mva; rfl) | (apply w_mvu; rfl) | (apply w_mvf; rfl) | apply w_mv | (apply w_fld; rfl) | (apply w_ld; rfl; (first | exact hc_i 0 rfl rfl | exact hc_i 1 rfl rfl | exact hc_i 2 rfl rfl | exact hc_i 3 rfl rfl | exact hc_i 4 rfl rfl | exact hc_d (by assumption) | exact hc_ds (by assumption) rfl | exact hc_ds0 (by assumption) rfl)) | (apply w_len; rfl) | (apply w_lens; rfl) | (apply w_lss; rfl; rfl) | (apply w_leq; rfl; rfl) | (apply w_gtr; rfl; rfl) | (apply w_geq; rfl; rfl) | (apply w_eql; rfl; rfl) | (apply w_neq; rfl; rfl) | (apply w_seq; rfl; rfl) | (apply w_sne; rfl; rfl) | (apply w_slt; rfl; rfl) | (apply w_sle; rfl; rfl) | (apply w_sgt; rfl; rfl) | (apply w_sge; rfl; rfl) | (apply w_add; rfl; rfl; omega; omega) | (apply w_sub; rfl; rfl; omega; omega) | (apply w_mul; rfl; rfl; omega; omega) | (apply w_quo; rfl; rfl; omega; omega; omega) | (apply w_rem; rfl; rfl; omega; omega) | (apply w_not; rfl) | (apply w_neg; rfl; omega; omega) | (apply w_cvi64; rfl; omega; omega) | (apply w_cvi8; rfl; omega; omega) | (apply w_mx2; rfl; rfl) | (apply w_mn2; rfl; rfl) | (apply w_ext; rfl; rfl) | apply w_mkf | apply w_mki | (apply w_idx; rfl; rfl; rfl; omega; assumption) | (apply w_idx 0; rfl; rfl; rfl; omega; assumption) | (apply w_nilc; rfl) | (apply w_eqpN; rfl; rfl) | (apply w_eqpS; rfl; rfl) | (apply w_eqpS'; rfl; rfl) | (apply w_eqsN; rfl; rfl) | (apply w_eqsS; rfl; rfl) | (apply w_eqb; rfl; rfl) | (apply w_pickTb; rfl; rfl) | (apply w_pickFb; rfl; rfl) | (apply w_gT; rfl) | (apply w_gF; rfl) | (apply w_ldb 0; rfl; rfl; rfl) | (apply w_ldb 1; rfl; rfl; rfl) | (apply w_ldb 2; rfl; rfl; rfl) | (apply w_ldb 3; rfl; rfl; rfl) | (apply w_ldd; rfl; assumption; rfl) | (apply w_boxa; rfl; intro _ _) | (apply w_alo; intro _ _) | (apply w_bld; rfl) | (apply w_cap; rfl) | apply w_done0 | apply w_done | apply w_bar | refine w_gdT rfl (by omega) ?_ | refine w_gdF rfl (by omega) ?_ | (apply w_gbT; rfl; assumption) | (apply w_gbF; rfl; assumption) | (apply w_gFp; rfl) | apply w_sq | apply w_reg | apply w_skip | (apply w_ifT; rfl) | (apply w_ifF; rfl) | apply w_block | apply w_ret | apply w_exit | apply w_drawn | refine w_ifdT rfl (by omega) ?_ | refine w_ifdF rfl (by omega) ?_ | (apply w_ifbT; rfl; assumption) | (apply w_ifbF; rfl; assumption)))
    refine w_pure rfl (misses_nob h6 hn hN) ?_
    (repeat (first | (apply w_mvi; rfl) | (apply w_mvb; rfl) | (apply w_mvs; rfl) | (apply w_mvp; rfl) | (apply w_mvt; rfl) | (apply w_mva; rfl) | (apply w_mvu; rfl) | (apply w_mvf; rfl) | apply w_mv | (apply w_fld; rfl) | (apply w_ld; rfl; (first | exact hc_i 0 rfl rfl | exact hc_i 1 rfl rfl | exact hc_i 2 rfl rfl | exact hc_i 3 rfl rfl | exact hc_i 4 rfl rfl | exact hc_d (by assumption) | exact hc_ds (by assumption) rfl | exact hc_ds0 (by assumption) rfl)) | (apply w_len; rfl) | (apply w_lens; rfl) | (apply w_lss; rfl; rfl) | (apply w_leq; rfl; rfl) | (apply w_gtr; rfl; rfl) | (apply w_geq; rfl; rfl) | (apply w_eql; rfl; rfl) | (apply w_neq; rfl; rfl) | (apply w_seq; rfl; rfl) | (apply w_sne; rfl; rfl) | (apply w_slt; rfl; rfl) | (apply w_sle; rfl; rfl) | (apply w_sgt; rfl; rfl) | (apply w_sge; rfl; rfl) | (apply w_add; rfl; rfl; omega; omega) | (apply w_sub; rfl; rfl; omega; omega) | (apply w_mul; rfl; rfl; omega; omega) | (apply w_quo; rfl; rfl; omega; omega; omega) | (apply w_rem; rfl; rfl; omega; omega) | (apply w_not; rfl) | (apply w_neg; rfl; omega; omega) | (apply w_cvi64; rfl; omega; omega) | (apply w_cvi8; rfl; omega; omega) | (apply w_mx2; rfl; rfl) | (apply w_mn2; rfl; rfl) | (apply w_ext; rfl; rfl) | apply w_mkf | apply w_mki | (apply w_idx; rfl; rfl; rfl; omega; assumption) | (apply w_idx 0; rfl; rfl; rfl; omega; assumption) | (apply w_nilc; rfl) | (apply w_eqpN; rfl; rfl) | (apply w_eqpS; rfl; rfl) | (apply w_eqpS'; rfl; rfl) | (apply w_eqsN; rfl; rfl) | (apply w_eqsS; rfl; rfl) | (apply w_eqb; rfl; rfl) | (apply w_pickTb; rfl; rfl) | (apply w_pickFb; rfl; rfl) | (apply w_gT; rfl) | (apply w_gF; rfl) | (apply w_ldb 0; rfl; rfl; rfl) | (apply w_ldb 1; rfl; rfl; rfl) | (apply w_ldb 2; rfl; rfl; rfl) | (apply w_ldb 3; rfl; rfl; rfl) | (apply w_ldd; rfl; assumption; rfl) | (apply w_boxa; rfl; intro _ _) | (apply w_alo; intro _ _) | (apply w_bld; rfl) | (apply w_cap; rfl) | apply w_done0 | apply w_done | apply w_bar | refine w_gdT rfl (by omega) ?_ | refine w_gdF rfl (by omega) ?_ | (apply w_gbT; rfl; assumption) | (apply w_gbF; rfl; assumption) | (apply w_gFp; rfl) | apply w_sq | apply w_reg | apply w_skip | (apply w_ifT; rfl) | (apply w_ifF; rfl) | apply w_block | apply w_ret | apply w_exit | apply w_drawn | refine w_ifdT rfl (by omega) ?_ | refine w_ifdF rfl (by omega) ?_ | (apply w_ifbT; rfl; assumption) | (apply w_ifbF; rfl; assumption)))
    exact ⟨1 + 1, by omega, ⟨rfl, rfl, rfl, rfl, trivial⟩, rfl, rfl, by omega⟩
  · (repeat (first | (apply w_mvi; rfl) | (apply w_mvb; rfl) | (apply w_mvs; rfl) | (apply w_mvp; rfl) | (apply w_mvt; rfl) | (apply w_mva; rfl) | (apply w_mvu; rfl) | (apply w_mvf; rfl) | apply w_mv | (apply w_fld; rfl) | (apply w_ld; rfl; (first | exact hc_i 0 rfl rfl | exact hc_i 1 rfl rfl | exact hc_i 2 rfl rfl | exact hc_i 3 rfl rfl | exact hc_i 4 rfl rfl | exact hc_d (by assumption) | exact hc_ds (by assumption) rfl | exact hc_ds0 (by assumption) rfl)) | (apply w_len; rfl) | (apply w_lens; rfl) | (apply w_lss; rfl; rfl) | (apply w_leq; rfl; rfl) | (apply w_gtr; rfl; rfl) | (apply w_geq; rfl; rfl) | (apply w_eql; rfl; rfl) | (apply w_neq; rfl; rfl) | (apply w_seq; rfl; rfl) | (apply w_sne; rfl; rfl) | (apply w_slt; rfl; rfl) | (apply w_sle; rfl; rfl) | (apply w_sgt; rfl; rfl) | (apply w_sge; rfl; rfl) | (apply w_add; rfl; rfl; omega; omega) | (apply w_sub; rfl; rfl; omega; omega) | (apply w_mul; rfl; rfl; omega; omega) | (apply w_quo; rfl; rfl; omega; omega; omega) | (apply w_rem; rfl; rfl; omega; omega) | (apply w_not; rfl) | (apply w_neg; rfl; omega; omega) | (apply w_cvi64; rfl; omega; omega) | (apply w_cvi8; rfl; omega; omega) | (apply w_mx2; rfl; rfl) | (apply w_mn2; rfl; rfl) | (apply w_ext; rfl; rfl) | apply w_mkf | apply w_mki | (apply w_idx; rfl; rfl; rfl; omega; assumption) | (apply w_idx 0; rfl; rfl; rfl; omega; assumption) | (apply w_nilc; rfl) | (apply w_eqpN; rfl; rfl) | (apply w_eqpS; rfl; rfl) | (apply w_eqpS'; rfl; rfl) | (apply w_eqsN; rfl; rfl) | (apply w_eqsS; rfl; rfl) | (apply w_eqb; rfl; rfl) | (apply w_pickTb; rfl; rfl) | (apply w_pickFb; rfl; rfl) | (apply w_gT; rfl) | (apply w_gF; rfl) | (apply w_ldb 0; rfl; rfl; rfl) | (apply w_ldb 1; rfl; rfl; rfl) | (apply w_ldb 2; rfl; rfl; rfl) | (apply w_ldb 3; rfl; rfl; rfl) | (apply w_ldd; rfl; assumption; rfl) | (apply w_boxa; rfl; intro _ _) | (apply w_alo; intro _ _) | (apply w_bld; rfl) | (apply w_cap; rfl) | apply w_done0 | apply w_done | apply w_bar | refine w_gdT rfl (by omega) ?_ | refine w_gdF rfl (by omega) ?_ | (apply w_gbT; rfl; assumption) | (apply w_gbF; rfl; assumption) | (apply w_gFp; rfl) | apply w_sq | apply w_reg | apply w_skip | (apply w_ifT; rfl) | (apply w_ifF; rfl) | apply w_block | apply w_ret | apply w_exit | apply w_drawn | refine w_ifdT rfl (by omega) ?_ | refine w_ifdF rfl (by omega) ?_ | (apply w_ifbT; rfl; assumption) | (apply w_ifbF; rfl; assumption)))
    refine w_pure rfl (new_nob h7 hs (.inl rfl)) ?_
    (repeat (first | (apply w_mvi; rfl) | (apply w_mvb; rfl) | (apply w_mvs; rfl) | (apply w_mvp; rfl) | (apply w_mvt; rfl) | (apply w_mva; rfl) | (apply w_mvu; rfl) | (apply w_mvf; rfl) | apply w_mv | (apply w_fld; rfl) | (apply w_ld; rfl; (first | exact hc_i 0 rfl rfl | exact hc_i 1 rfl rfl | exact hc_i 2 rfl rfl | exact hc_i 3 rfl rfl | exact hc_i 4 rfl rfl | exact hc_d (by assumption) | exact hc_ds (by assumption) rfl | exact hc_ds0 (by assumption) rfl)) | (apply w_len; rfl) | (apply w_lens; rfl) | (apply w_lss; rfl; rfl) | (apply w_leq; rfl; rfl) | (apply w_gtr; rfl; rfl) | (apply w_geq; rfl; rfl) | (apply w_eql; rfl; rfl) | (apply w_neq; rfl; rfl) | (apply w_seq; rfl; rfl) | (apply w_sne; rfl; rfl) | (apply w_slt; rfl; rfl) | (apply w_sle; rfl; rfl) | (apply w_sgt; rfl; rfl) | (apply w_sge; rfl; rfl) | (apply w_add; rfl; rfl; omega; omega) | (apply w_sub; rfl; rfl; omega; omega) | (apply w_mul; rfl; rfl; omega; omega) | (apply w_quo; rfl; rfl; omega; omega; omega) | (apply w_rem; rfl; rfl; omega; omega) | (apply w_not; rfl) | (apply w_neg; rfl; omega; omega) | (apply w_cvi64; rfl; omega; omega) | (apply w_cvi8; rfl; omega; omega) | (apply w_mx2; rfl; rfl) | (apply w_mn2; rfl; rfl) | (apply w_ext; rfl; rfl) | apply w_mkf | apply w_mki | (apply w_idx; rfl; rfl; rfl; omega; assumption) | (apply w_idx 0; rfl; rfl; rfl; omega; assumption) | (apply w_nilc; rfl) | (apply w_eqpN; rfl; rfl) | (apply w_eqpS; rfl; rfl) | (apply w_eqpS'; rfl; rfl) | (apply w_eqsN; rfl; rfl) | (apply w_eqsS; rfl; rfl) | (apply w_eqb; rfl; rfl) | (apply w_pickTb; rfl; rfl) | (apply w_pickFb; rfl; rfl) | (apply w_gT; rfl) | (apply w_gF; rfl) | (apply w_ldb 0; rfl; rfl; rfl) | (apply w_ldb 1; rfl; rfl; rfl) | (apply w_ldb 2; rfl; rfl; rfl) | (apply w_ldb 3; rfl; rfl; rfl) | (apply w_ldd; rfl; assumption; rfl) | (apply w_boxa; rfl; intro _ _) | (apply w_alo; intro _ _) | (apply w_bld; rfl) | (apply w_cap; rfl) | apply w_done0 | apply w_done | apply w_bar | refine w_gdT rfl (by omega) ?_ | refine w_gdF rfl (by omega) ?_ | (apply w_gbT; rfl; assumption) | (apply w_gbF; rfl; assumption) | (apply w_gFp; rfl) | apply w_sq | apply w_reg | apply w_skip | (apply w_ifT; rfl) | (apply w_ifF; rfl) | apply w_block | apply w_ret | apply w_exit | apply w_drawn | refine w_ifdT rfl (by omega) ?_ | refine w_ifdF rfl (by omega) ?_ | (apply w_ifbT; rfl; assumption) | (apply w_ifbF; rfl; assumption)))
    rename_i b3 T3
    refine w_frz (fun d2 hl2 hb2 => ?_)
    replace hb2 := dcs_bx hb2
    (repeat (first | (apply w_mvi; rfl) | (apply w_mvb; rfl) | (apply w_mvs; rfl) | (apply w_mvp; rfl) | (apply w_mvt; rfl) | (apply w_mva; rfl) | (apply w_mvu; rfl) | (apply w_mvf; rfl) | apply w_mv | (apply w_fld; rfl) | (apply w_ld; rfl; (first | exact hc_i 0 rfl rfl | exact hc_i 1 rfl rfl | exact hc_i 2 rfl rfl | exact hc_i 3 rfl rfl | exact hc_i 4 rfl rfl | exact hc_d (by assumption) | exact hc_ds (by assumption) rfl | exact hc_ds0 (by assumption) rfl)) | (apply w_len; rfl) | (apply w_lens; rfl) | (apply w_lss; rfl; rfl) | (apply w_leq; rfl; rfl) | (apply w_gtr; rfl; rfl) | (apply w_geq; rfl; rfl) | (apply w_eql; rfl; rfl) | (apply w_neq; rfl; rfl) | (apply w_seq; rfl; rfl) | (apply w_sne; rfl; rfl) | (apply w_slt; rfl; rfl) | (apply w_sle; rfl; rfl) | (apply w_sgt; rfl; rfl) | (apply w_sge; rfl; rfl) | (apply w_add; rfl; rfl; omega; omega) | (apply w_sub; rfl; rfl; omega; omega) | (apply w_mul; rfl; rfl; omega; omega) | (apply w_quo; rfl; rfl; omega; omega; omega) | (apply w_rem; rfl; rfl; omega; omega) | (apply w_not; rfl) | (apply w_neg; rfl; omega; omega) | (apply w_cvi64; rfl; omega; omega) | (apply w_cvi8; rfl; omega; omega) | (apply w_mx2; rfl; rfl) | (apply w_mn2; rfl; rfl) | (apply w_ext; rfl; rfl) | apply w_mkf | apply w_mki | (apply w_idx; rfl; rfl; rfl; omega; assumption) | (apply w_idx 0; rfl; rfl; rfl; omega; assumption) | (apply w_nilc; rfl) | (apply w_eqpN; rfl; rfl) | (apply w_eqpS; rfl; rfl) | (apply w_eqpS'; rfl; rfl) | (apply w_eqsN; rfl; rfl) | (apply w_eqsS; rfl; rfl) | (apply w_eqb; rfl; rfl) | (apply w_pickTb; rfl; rfl) | (apply w_pickFb; rfl; rfl) | (apply w_gT; rfl) | (apply w_gF; rfl) | (apply w_ldb 0; rfl; rfl; rfl) | (apply w_ldb 1; rfl; rfl; rfl) | (apply w_ldb 2; rfl; rfl; rfl) | (apply w_ldb 3; rfl; rfl; rfl) | (apply w_ldd; rfl; assumption; rfl) | (apply w_boxa; rfl; intro _ _) | (apply w_alo; intro _ _) | (apply w_bld; rfl) | (apply w_cap; rfl) | apply w_done0 | apply w_done | apply w_bar | refine w_gdT rfl (by omega) ?_ | refine w_gdF rfl (by omega) ?_ | (apply w_gbT; rfl; assumption) | (apply w_gbF; rfl; assumption) | (apply w_gFp; rfl) | apply w_sq | apply w_reg | apply w_skip | (apply w_ifT; rfl) | (apply w_ifF; rfl) | apply w_block | apply w_ret | apply w_exit | apply w_drawn | refine w_ifdT rfl (by omega) ?_ | refine w_ifdF rfl (by omega) ?_ | (apply w_ifbT; rfl; assumption) | (apply w_ifbF; rfl; assumption)))
    refine w_pure rfl (new_nob h7 hs (.inr ⟨b3, rfl, hb2.at (i := 0) rfl⟩)) ?_
    (repeat (first | (apply w_mvi; rfl) | (apply w_mvb; rfl) | (apply w_mvs; rfl) | (apply w_mvp; rfl) | (apply w_mvt; rfl) | (apply w_mva; rfl) | (apply w_mvu; rfl) | (apply w_mvf; rfl) | apply w_mv | (apply w_fld; rfl) | (apply w_ld; rfl; (first | exact hc_i 0 rfl rfl | exact hc_i 1 rfl rfl | exact hc_i 2 rfl rfl | exact hc_i 3 rfl rfl | exact hc_i 4 rfl rfl | exact hc_d (by assumption) | exact hc_ds (by assumption) rfl | exact hc_ds0 (by assumption) rfl)) | (apply w_len; rfl) | (apply w_lens; rfl) | (apply w_lss; rfl; rfl) | (apply w_leq; rfl; rfl) | (apply w_gtr; rfl; rfl) | (apply w_geq; rfl; rfl) | (apply w_eql; rfl; rfl) | (apply w_neq; rfl; rfl) | (apply w_seq; rfl; rfl) | (apply w_sne; rfl; rfl) | (apply w_slt; rfl; rfl) | (apply w_sle; rfl; rfl) | (apply w_sgt; rfl; rfl) | (apply w_sge; rfl; rfl) | (apply w_add; rfl; rfl; omega; omega) | (apply w_sub; rfl; rfl; omega; omega) | (apply w_mul; rfl; rfl; omega; omega) | (apply w_quo; rfl; rfl; omega; omega; omega) | (apply w_rem; rfl; rfl; omega; omega) | (apply w_not; rfl) | (apply w_neg; rfl; omega; omega) | (apply w_cvi64; rfl; omega; omega) | (apply w_cvi8; rfl; omega; omega) | (apply w_mx2; rfl; rfl) | (apply w_mn2; rfl; rfl) | (apply w_ext; rfl; rfl) | apply w_mkf | apply w_mki | (apply w_idx; rfl; rfl; rfl; omega; assumption) | (apply w_idx 0; rfl; rfl; rfl; omega; assumption) | (apply w_nilc; rfl) | (apply w_eqpN; rfl; rfl) | (apply w_eqpS; rfl; rfl) | (apply w_eqpS'; rfl; rfl) | (apply w_eqsN; rfl; rfl) | (apply w_eqsS; rfl; rfl) | (apply w_eqb; rfl; rfl) | (apply w_pickTb; rfl; rfl) | (apply w_pickFb; rfl; rfl) | (apply w_gT; rfl) | (apply w_gF; rfl) | (apply w_ldb 0; rfl; rfl; rfl) | (apply w_ldb 1; rfl; rfl; rfl) | (apply w_ldb 2; rfl; rfl; rfl) | (apply w_ldb 3; rfl; rfl; rfl) | (apply w_ldd; rfl; assumption; rfl) | (apply w_boxa; rfl; intro _ _) | (apply w_alo; intro _ _) | (apply w_bld; rfl) | (apply w_cap; rfl) | apply w_done0 | apply w_done | apply w_bar | refine w_gdT rfl (by omega) ?_ | refine w_gdF rfl (by omega) ?_ | (apply w_gbT; rfl; assumption) | (apply w_gbF; rfl; assumption) | (apply w_gFp; rfl) | apply w_sq | apply w_reg | apply w_skip | (apply w_ifT; rfl) | (apply w_ifF; rfl) | apply w_block | apply w_ret | apply w_exit | apply w_drawn | refine w_ifdT rfl (by omega) ?_ | refine w_ifdF rfl (by omega) ?_ | (apply w_ifbT; rfl; assumption) | (apply w_ifbF; rfl; assumption)))
    exact fin1n rfl rfl
end Go.Gk.Cache
