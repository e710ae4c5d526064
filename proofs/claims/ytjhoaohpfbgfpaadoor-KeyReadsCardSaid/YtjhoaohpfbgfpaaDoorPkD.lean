/-
  Our own texts, one behind the other: GkV4 GkU2 GkV5 GkV6 GkV7 GkV8 Gk17.
-/
import Derived.Test.YtjhoaohpfbgfpaaDoorPkC
section
namespace Go.Gk.Val
open Go Go.Gk Go.Gk.Utf
attribute [local irreducible] gwp gws

def CharOk (P : Program) (f : FuncId) : Prop := ∀ {d : PHeap} {n : Int}, I64 n → GPure P f [.int .i64 n] d (strV (charF n))
def g_thimbleref02_Char : GFun :=
 ⟨72, [(.tmp 2)],
 (.seq
 (.reg false (.op false ⟨(some 2), none, (.mv (.const (strV [])))⟩ .done))
 (.seq (.seq
 (.reg false (.op false ⟨(some 3), none, (.mv (.tmp 0))⟩
  (.op false ⟨(some 4), none, (.bin .lss (.tmp 3) (.const (.int .i64 0)))⟩
  (.op false ⟨(some 5), none, (.mv (.tmp 4))⟩
  (.op false ⟨(some 6), (some (5, false)), (.mv (.tmp 0))⟩
  (.op false ⟨(some 7), (some (5, false)), (.bin .gtr (.tmp 6) (.const (.int .i64 1114111)))⟩
  (.op false ⟨(some 8), none, (.pick (.tmp 5) (.const (.bool true)) (.tmp 7))⟩
  (.op false ⟨(some 9), none, (.mv (.tmp 8))⟩
  (.op false ⟨(some 10), (some (9, false)), (.mv (.tmp 0))⟩
  (.op false ⟨(some 11), (some (9, false)), (.bin .geq (.tmp 10) (.const (.int .i64 55296)))⟩
  (.op false ⟨(some 12), (some (9, false)), (.mv (.tmp 11))⟩
  (.op false ⟨(some 13), (some (12, true)), (.mv (.tmp 0))⟩
  (.op false ⟨(some 14), (some (12, true)), (.bin .leq (.tmp 13) (.const (.int .i64 57343)))⟩
  (.op false ⟨(some 15), (some (9, false)), (.pick (.tmp 12) (.tmp 14) (.const (.bool false)))⟩
  (.op false ⟨(some 16), none, (.pick (.tmp 9) (.const (.bool true)) (.tmp 15))⟩ .done))))))))))))))) (.cond (.tmp 16)
 (.seq
 (.reg false (.op false ⟨(some 2), none, (.mv (.const (strV [])))⟩ .done)) .ret) .skip))
 (.seq (.seq
 (.reg false (.op false ⟨(some 17), none, (.mv (.tmp 0))⟩
  (.op false ⟨(some 18), none, (.bin .lss (.tmp 17) (.const (.int .i64 128)))⟩ .done))) (.cond (.tmp 18)
 (.seq
 (.reg false (.op false ⟨(some 19), none, (.mv (.tmp 0))⟩
  (.op false ⟨(some 20), none, (.cvi .u8 (.tmp 19))⟩
  (.op false ⟨(some 21), none, (.bsl 1 1 [(.int .u8 0)] [(0, (.tmp 20))])⟩
  (.op false ⟨(some 22), none, (.b2s (.tmp 21))⟩
  (.op false ⟨(some 2), none, (.mv (.tmp 22))⟩ .done)))))) .ret) .skip))
 (.seq (.seq
 (.reg false (.op false ⟨(some 23), none, (.mv (.tmp 0))⟩
  (.op false ⟨(some 24), none, (.bin .lss (.tmp 23) (.const (.int .i64 2048)))⟩ .done))) (.cond (.tmp 24)
 (.seq
 (.reg false (.op false ⟨(some 25), none, (.mv (.tmp 0))⟩
  (.op false ⟨(some 26), none, (.bin .quo (.tmp 25) (.const (.int .i64 64)))⟩
  (.op false ⟨(some 27), none, (.bin .add (.const (.int .i64 192)) (.tmp 26))⟩
  (.op false ⟨(some 28), none, (.cvi .u8 (.tmp 27))⟩
  (.op false ⟨(some 29), none, (.mv (.tmp 0))⟩
  (.op false ⟨(some 30), none, (.bin .rem (.tmp 29) (.const (.int .i64 64)))⟩
  (.op false ⟨(some 31), none, (.bin .add (.const (.int .i64 128)) (.tmp 30))⟩
  (.op false ⟨(some 32), none, (.cvi .u8 (.tmp 31))⟩
  (.op false ⟨(some 33), none, (.bsl 2 1 [(.int .u8 0)] [(0, (.tmp 28)), (1, (.tmp 32))])⟩
  (.op false ⟨(some 34), none, (.b2s (.tmp 33))⟩
  (.op false ⟨(some 2), none, (.mv (.tmp 34))⟩ .done)))))))))))) .ret) .skip))
 (.seq (.seq
 (.reg false (.op false ⟨(some 35), none, (.mv (.tmp 0))⟩
  (.op false ⟨(some 36), none, (.bin .lss (.tmp 35) (.const (.int .i64 65536)))⟩ .done))) (.cond (.tmp 36)
 (.seq
 (.reg false (.op false ⟨(some 37), none, (.mv (.tmp 0))⟩
  (.op false ⟨(some 38), none, (.bin .quo (.tmp 37) (.const (.int .i64 4096)))⟩
  (.op false ⟨(some 39), none, (.bin .add (.const (.int .i64 224)) (.tmp 38))⟩
  (.op false ⟨(some 40), none, (.cvi .u8 (.tmp 39))⟩
  (.op false ⟨(some 41), none, (.mv (.tmp 0))⟩
  (.op false ⟨(some 42), none, (.bin .quo (.tmp 41) (.const (.int .i64 64)))⟩
  (.op false ⟨(some 43), none, (.bin .rem (.tmp 42) (.const (.int .i64 64)))⟩
  (.op false ⟨(some 44), none, (.bin .add (.const (.int .i64 128)) (.tmp 43))⟩
  (.op false ⟨(some 45), none, (.cvi .u8 (.tmp 44))⟩
  (.op false ⟨(some 46), none, (.mv (.tmp 0))⟩
  (.op false ⟨(some 47), none, (.bin .rem (.tmp 46) (.const (.int .i64 64)))⟩
  (.op false ⟨(some 48), none, (.bin .add (.const (.int .i64 128)) (.tmp 47))⟩
  (.op false ⟨(some 49), none, (.cvi .u8 (.tmp 48))⟩
  (.op false ⟨(some 50), none, (.bsl 3 1 [(.int .u8 0)] [(0, (.tmp 40)), (1, (.tmp 45)), (2, (.tmp 49))])⟩
  (.op false ⟨(some 51), none, (.b2s (.tmp 50))⟩
  (.op false ⟨(some 2), none, (.mv (.tmp 51))⟩ .done))))))))))))))))) .ret) .skip))
 (.seq
 (.reg false (.op false ⟨(some 52), none, (.mv (.tmp 0))⟩
  (.op false ⟨(some 53), none, (.bin .quo (.tmp 52) (.const (.int .i64 262144)))⟩
  (.op false ⟨(some 54), none, (.bin .add (.const (.int .i64 240)) (.tmp 53))⟩
  (.op false ⟨(some 55), none, (.cvi .u8 (.tmp 54))⟩
  (.op false ⟨(some 56), none, (.mv (.tmp 0))⟩
  (.op false ⟨(some 57), none, (.bin .quo (.tmp 56) (.const (.int .i64 4096)))⟩
  (.op false ⟨(some 58), none, (.bin .rem (.tmp 57) (.const (.int .i64 64)))⟩
  (.op false ⟨(some 59), none, (.bin .add (.const (.int .i64 128)) (.tmp 58))⟩
  (.op false ⟨(some 60), none, (.cvi .u8 (.tmp 59))⟩
  (.op false ⟨(some 61), none, (.mv (.tmp 0))⟩
  (.op false ⟨(some 62), none, (.bin .quo (.tmp 61) (.const (.int .i64 64)))⟩
  (.op false ⟨(some 63), none, (.bin .rem (.tmp 62) (.const (.int .i64 64)))⟩
  (.op false ⟨(some 64), none, (.bin .add (.const (.int .i64 128)) (.tmp 63))⟩
  (.op false ⟨(some 65), none, (.cvi .u8 (.tmp 64))⟩
  (.op false ⟨(some 66), none, (.mv (.tmp 0))⟩
  (.op false ⟨(some 67), none, (.bin .rem (.tmp 66) (.const (.int .i64 64)))⟩
  (.op false ⟨(some 68), none, (.bin .add (.const (.int .i64 128)) (.tmp 67))⟩
  (.op false ⟨(some 69), none, (.cvi .u8 (.tmp 68))⟩
  (.op false ⟨(some 70), none, (.bsl 4 1 [(.int .u8 0)] [(0, (.tmp 55)), (1, (.tmp 60)), (2, (.tmp 65)), (3, (.tmp 69))])⟩
  (.op false ⟨(some 71), none, (.b2s (.tmp 70))⟩
  (.op false ⟨(some 2), none, (.mv (.tmp 71))⟩ .done)))))))))))))))))))))) .ret))))))⟩

theorem char_ok {P : Program} {f : FuncId} (hd : dec P f = some g_thimbleref02_Char) : CharOk P f := by
  intro d n ⟨hn1, hn2⟩
  refine GPure.of' hd (Nat.le_of_ble_eq_true rfl) ?_
  show gwp P _ _ _ _ _
  by_cases h1 : n < 0
  · have e := charF_0 (.inl h1)
    (apply w_sq; apply w_reg; apply w_mvt; rfl; apply w_done0; apply w_sq; apply w_sq; apply w_reg; apply w_mvi; rfl; apply w_lss; rfl; rfl; apply w_mvb; rfl; refine w_gdT rfl (by omega) ?_; apply w_gF; rfl; apply w_gF; rfl; apply w_pickTb; rfl; rfl; apply w_mvb; rfl; apply w_gF; rfl; apply w_gF; rfl; apply w_gF; rfl; apply w_gU; rfl; apply w_gU; rfl; apply w_gF; rfl; apply w_pickTb; rfl; rfl; apply w_done0; apply w_ifT; rfl; apply w_sq; apply w_reg; apply w_mvt; rfl; apply w_done0; apply w_ret)
    exact fin1n (v := strV []) rfl ⟨by rw [e], rfl⟩
  by_cases h2 : n > 1114111
  · have e := charF_0 (.inr (.inl h2))
    (apply w_sq; apply w_reg; apply w_mvt; rfl; apply w_done0; apply w_sq; apply w_sq; apply w_reg; apply w_mvi; rfl; apply w_lss; rfl; rfl; apply w_mvb; rfl; refine w_gdF rfl (by omega) ?_; apply w_gT; rfl; apply w_mvi; rfl; apply w_gT; rfl; apply w_gtr; rfl; rfl; apply w_pickFb; rfl; rfl; apply w_mvb; rfl; refine w_gdT rfl (by omega) ?_; apply w_gF; rfl; apply w_gF; rfl; apply w_gF; rfl; apply w_gU; rfl; apply w_gU; rfl; apply w_gF; rfl; apply w_pickTb; rfl; rfl; apply w_done0; apply w_ifT; rfl; apply w_sq; apply w_reg; apply w_mvt; rfl; apply w_done0; apply w_ret)
    exact fin1n (v := strV []) rfl ⟨by rw [e], rfl⟩
  by_cases h3 : n ≥ 55296 ∧ n ≤ 57343
  · obtain ⟨h3, h3'⟩ := h3
    have e := charF_0 (.inr (.inr ⟨h3, h3'⟩))
    (apply w_sq; apply w_reg; apply w_mvt; rfl; apply w_done0; apply w_sq; apply w_sq; apply w_reg; apply w_mvi; rfl; apply w_lss; rfl; rfl; apply w_mvb; rfl; refine w_gdF rfl (by omega) ?_; apply w_gT; rfl; apply w_mvi; rfl; apply w_gT; rfl; apply w_gtr; rfl; rfl; apply w_pickFb; rfl; rfl; apply w_mvb; rfl; refine w_gdF rfl (by omega) ?_; apply w_gT; rfl; apply w_mvi; rfl; apply w_gT; rfl; apply w_geq; rfl; rfl; apply w_gT; rfl; apply w_mvb; rfl; refine w_gdT rfl (by omega) ?_; apply w_gT; rfl; apply w_mvi; rfl; apply w_gT; rfl; apply w_leq; rfl; rfl; apply w_gT; rfl; apply w_pickTb; rfl; rfl; apply w_pickFb; rfl; rfl; apply w_done0; refine w_ifdT rfl (by omega) ?_; apply w_sq; apply w_reg; apply w_mvt; rfl; apply w_done0; apply w_ret)
    exact fin1n (v := strV []) rfl ⟨by rw [e], rfl⟩
  have hsur : n < 55296 ∨ (n ≥ 55296 ∧ ¬ n ≤ 57343) := by omega
  by_cases h4 : n < 128
  · have e := charF_1 (by omega) h4
    (apply w_sq; apply w_reg; apply w_mvt; rfl; apply w_done0; apply w_sq; apply w_sq; apply w_reg; apply w_mvi; rfl; apply w_lss; rfl; rfl; apply w_mvb; rfl; refine w_gdF rfl (by omega) ?_; apply w_gT; rfl; apply w_mvi; rfl; apply w_gT; rfl; apply w_gtr; rfl; rfl; apply w_pickFb; rfl; rfl; apply w_mvb; rfl; refine w_gdF rfl (by omega) ?_; apply w_gT; rfl; apply w_mvi; rfl; apply w_gT; rfl; apply w_geq; rfl; rfl; apply w_gT; rfl; apply w_mvb; rfl; refine w_gdF rfl (by omega) ?_; apply w_gF; rfl; apply w_gF; rfl; apply w_gT; rfl; apply w_pickFb; rfl; rfl; apply w_pickFb; rfl; rfl; apply w_done0; apply w_ifF; rfl; apply w_skip; apply w_sq; apply w_sq; apply w_reg; apply w_mvi; rfl; apply w_lss; rfl; rfl; apply w_done0; refine w_ifdT rfl (by omega) ?_; apply w_sq; apply w_reg; apply w_mvi; rfl; apply w_cvb; rfl)
    refine w_bs1 (v0 := byteV (UInt8.ofNat (n % 256).toNat)) rfl rfl (fun b8 T8 => ?_)
    have o : GRow 1 RByte d (.slice (some ⟨b8, 0, none⟩) 1 1) (charF n) (bx b8 T8 [byteV (UInt8.ofNat (n % 256).toNat)]) := GRow.litB (by rw [e]; rfl) (by rw [e]; rfl) (by rw [e]; simp)
    (refine w_b2sG (by rfl) (by assumption) (by simp [lk]) ?_; apply w_mvt; rfl; apply w_done0; apply w_ret)
    exact finQ rfl
  by_cases h5 : n < 2048
  · have e := charF_2 (by omega) h5
    (apply w_sq; apply w_reg; apply w_mvt; rfl; apply w_done0; apply w_sq; apply w_sq; apply w_reg; apply w_mvi; rfl; apply w_lss; rfl; rfl; apply w_mvb; rfl; refine w_gdF rfl (by omega) ?_; apply w_gT; rfl; apply w_mvi; rfl; apply w_gT; rfl; apply w_gtr; rfl; rfl; apply w_pickFb; rfl; rfl; apply w_mvb; rfl; refine w_gdF rfl (by omega) ?_; apply w_gT; rfl; apply w_mvi; rfl; apply w_gT; rfl; apply w_geq; rfl; rfl; apply w_gT; rfl; apply w_mvb; rfl; refine w_gdF rfl (by omega) ?_; apply w_gF; rfl; apply w_gF; rfl; apply w_gT; rfl; apply w_pickFb; rfl; rfl; apply w_pickFb; rfl; rfl; apply w_done0; apply w_ifF; rfl; apply w_skip; apply w_sq; apply w_sq; apply w_reg; apply w_mvi; rfl; apply w_lss; rfl; rfl; apply w_done0; refine w_ifdF rfl (by omega) ?_; apply w_skip; apply w_sq; apply w_sq; apply w_reg; apply w_mvi; rfl; apply w_lss; rfl; rfl; apply w_done0; refine w_ifdT rfl (by omega) ?_; apply w_sq; apply w_reg; apply w_mvi; rfl; apply w_quo; rfl; rfl; omega; omega; omega; apply w_add; rfl; rfl; omega; omega; apply w_cvb; rfl; apply w_mvi; rfl; apply w_rem; rfl; rfl; omega; omega; apply w_add; rfl; rfl; omega; omega; apply w_cvb; rfl)
    refine w_bs2 (v0 := byteV (UInt8.ofNat ((192 + n / 64) % 256).toNat)) (v1 := byteV (UInt8.ofNat ((128 + n % 64) % 256).toNat)) rfl rfl rfl rfl (fun b8 T8 => ?_)
    have o : GRow 1 RByte d (.slice (some ⟨b8, 0, none⟩) 2 2) (charF n) (bx b8 T8 [byteV (UInt8.ofNat ((192 + n / 64) % 256).toNat), byteV (UInt8.ofNat ((128 + n % 64) % 256).toNat)]) := GRow.litB (by rw [e]; rfl) (by rw [e]; rfl) (by rw [e]; simp)
    (refine w_b2sG (by rfl) (by assumption) (by simp [lk]) ?_; apply w_mvt; rfl; apply w_done0; apply w_ret)
    exact finQ rfl
  rcases hsur with hs | ⟨hs, hs'⟩
  · have e := charF_3 (n := n) (by omega) (by omega) (by omega)
    (apply w_sq; apply w_reg; apply w_mvt; rfl; apply w_done0; apply w_sq; apply w_sq; apply w_reg; apply w_mvi; rfl; apply w_lss; rfl; rfl; apply w_mvb; rfl; refine w_gdF rfl (by omega) ?_; apply w_gT; rfl; apply w_mvi; rfl; apply w_gT; rfl; apply w_gtr; rfl; rfl; apply w_pickFb; rfl; rfl; apply w_mvb; rfl; refine w_gdF rfl (by omega) ?_; apply w_gT; rfl; apply w_mvi; rfl; apply w_gT; rfl; apply w_geq; rfl; rfl; apply w_gT; rfl; apply w_mvb; rfl; refine w_gdF rfl (by omega) ?_; apply w_gF; rfl; apply w_gF; rfl; apply w_gT; rfl; apply w_pickFb; rfl; rfl; apply w_pickFb; rfl; rfl; apply w_done0; apply w_ifF; rfl; apply w_skip; apply w_sq; apply w_sq; apply w_reg; apply w_mvi; rfl; apply w_lss; rfl; rfl; apply w_done0; refine w_ifdF rfl (by omega) ?_; apply w_skip; apply w_sq; apply w_sq; apply w_reg; apply w_mvi; rfl; apply w_lss; rfl; rfl; apply w_done0; refine w_ifdF rfl (by omega) ?_; apply w_skip; apply w_sq; apply w_sq; apply w_reg; apply w_mvi; rfl; apply w_lss; rfl; rfl; apply w_done0; refine w_ifdT rfl (by omega) ?_; apply w_sq; apply w_reg; apply w_mvi; rfl; apply w_quo; rfl; rfl; omega; omega; omega; apply w_add; rfl; rfl; omega; omega; apply w_cvb; rfl; apply w_mvi; rfl; apply w_quo; rfl; rfl; omega; omega; omega; apply w_rem; rfl; rfl; omega; omega; apply w_add; rfl; rfl; omega; omega; apply w_cvb; rfl; apply w_mvi; rfl; apply w_rem; rfl; rfl; omega; omega; apply w_add; rfl; rfl; omega; omega; apply w_cvb; rfl)
    refine w_bs3 (v0 := byteV (UInt8.ofNat ((224 + n / 4096) % 256).toNat)) (v1 := byteV (UInt8.ofNat ((128 + n / 64 % 64) % 256).toNat)) (v2 := byteV (UInt8.ofNat ((128 + n % 64) % 256).toNat)) rfl rfl rfl rfl rfl rfl (fun b8 T8 => ?_)
    have o : GRow 1 RByte d (.slice (some ⟨b8, 0, none⟩) 3 3) (charF n) (bx b8 T8 [byteV (UInt8.ofNat ((224 + n / 4096) % 256).toNat), byteV (UInt8.ofNat ((128 + n / 64 % 64) % 256).toNat), byteV (UInt8.ofNat ((128 + n % 64) % 256).toNat)]) := GRow.litB (by rw [e]; rfl) (by rw [e]; rfl) (by rw [e]; simp)
    (refine w_b2sG (by rfl) (by assumption) (by simp [lk]) ?_; apply w_mvt; rfl; apply w_done0; apply w_ret)
    exact finQ rfl
  · by_cases h6 : n < 65536
    · have e := charF_3 (n := n) (by omega) (by omega) (by omega)
      (apply w_sq; apply w_reg; apply w_mvt; rfl; apply w_done0; apply w_sq; apply w_sq; apply w_reg; apply w_mvi; rfl; apply w_lss; rfl; rfl; apply w_mvb; rfl; refine w_gdF rfl (by omega) ?_; apply w_gT; rfl; apply w_mvi; rfl; apply w_gT; rfl; apply w_gtr; rfl; rfl; apply w_pickFb; rfl; rfl; apply w_mvb; rfl; refine w_gdF rfl (by omega) ?_; apply w_gT; rfl; apply w_mvi; rfl; apply w_gT; rfl; apply w_geq; rfl; rfl; apply w_gT; rfl; apply w_mvb; rfl; refine w_gdT rfl (by omega) ?_; apply w_gT; rfl; apply w_mvi; rfl; apply w_gT; rfl; apply w_leq; rfl; rfl; apply w_gT; rfl; apply w_pickTb; rfl; rfl; apply w_pickFb; rfl; rfl; apply w_done0; refine w_ifdF rfl (by omega) ?_; apply w_skip; apply w_sq; apply w_sq; apply w_reg; apply w_mvi; rfl; apply w_lss; rfl; rfl; apply w_done0; refine w_ifdF rfl (by omega) ?_; apply w_skip; apply w_sq; apply w_sq; apply w_reg; apply w_mvi; rfl; apply w_lss; rfl; rfl; apply w_done0; refine w_ifdF rfl (by omega) ?_; apply w_skip; apply w_sq; apply w_sq; apply w_reg; apply w_mvi; rfl; apply w_lss; rfl; rfl; apply w_done0; refine w_ifdT rfl (by omega) ?_; apply w_sq; apply w_reg; apply w_mvi; rfl; apply w_quo; rfl; rfl; omega; omega; omega; apply w_add; rfl; rfl; omega; omega; apply w_cvb; rfl; apply w_mvi; rfl; apply w_quo; rfl; rfl; omega; omega; omega; apply w_rem; rfl; rfl; omega; omega; apply w_add; rfl; rfl; omega; omega; apply w_cvb; rfl; apply w_mvi; rfl; apply w_rem; rfl; rfl; omega; omega; apply w_add; rfl; rfl; omega; omega; apply w_cvb; rfl)
      refine w_bs3 (v0 := byteV (UInt8.ofNat ((224 + n / 4096) % 256).toNat)) (v1 := byteV (UInt8.ofNat ((128 + n / 64 % 64) % 256).toNat)) (v2 := byteV (UInt8.ofNat ((128 + n % 64) % 256).toNat)) rfl rfl rfl rfl rfl rfl (fun b8 T8 => ?_)
      have o : GRow 1 RByte d (.slice (some ⟨b8, 0, none⟩) 3 3) (charF n) (bx b8 T8 [byteV (UInt8.ofNat ((224 + n / 4096) % 256).toNat), byteV (UInt8.ofNat ((128 + n / 64 % 64) % 256).toNat), byteV (UInt8.ofNat ((128 + n % 64) % 256).toNat)]) := GRow.litB (by rw [e]; rfl) (by rw [e]; rfl) (by rw [e]; simp)
      (refine w_b2sG (by rfl) (by assumption) (by simp [lk]) ?_; apply w_mvt; rfl; apply w_done0; apply w_ret)
      exact finQ rfl
    · have e := charF_4 (n := n) (by omega) (by omega)
      (apply w_sq; apply w_reg; apply w_mvt; rfl; apply w_done0; apply w_sq; apply w_sq; apply w_reg; apply w_mvi; rfl; apply w_lss; rfl; rfl; apply w_mvb; rfl; refine w_gdF rfl (by omega) ?_; apply w_gT; rfl; apply w_mvi; rfl; apply w_gT; rfl; apply w_gtr; rfl; rfl; apply w_pickFb; rfl; rfl; apply w_mvb; rfl; refine w_gdF rfl (by omega) ?_; apply w_gT; rfl; apply w_mvi; rfl; apply w_gT; rfl; apply w_geq; rfl; rfl; apply w_gT; rfl; apply w_mvb; rfl; refine w_gdT rfl (by omega) ?_; apply w_gT; rfl; apply w_mvi; rfl; apply w_gT; rfl; apply w_leq; rfl; rfl; apply w_gT; rfl; apply w_pickTb; rfl; rfl; apply w_pickFb; rfl; rfl; apply w_done0; refine w_ifdF rfl (by omega) ?_; apply w_skip; apply w_sq; apply w_sq; apply w_reg; apply w_mvi; rfl; apply w_lss; rfl; rfl; apply w_done0; refine w_ifdF rfl (by omega) ?_; apply w_skip; apply w_sq; apply w_sq; apply w_reg; apply w_mvi; rfl; apply w_lss; rfl; rfl; apply w_done0; refine w_ifdF rfl (by omega) ?_; apply w_skip; apply w_sq; apply w_sq; apply w_reg; apply w_mvi; rfl; apply w_lss; rfl; rfl; apply w_done0; refine w_ifdF rfl (by omega) ?_; apply w_skip; apply w_sq; apply w_reg; apply w_mvi; rfl; apply w_quo; rfl; rfl; omega; omega; omega; apply w_add; rfl; rfl; omega; omega; apply w_cvb; rfl; apply w_mvi; rfl; apply w_quo; rfl; rfl; omega; omega; omega; apply w_rem; rfl; rfl; omega; omega; apply w_add; rfl; rfl; omega; omega; apply w_cvb; rfl; apply w_mvi; rfl; apply w_quo; rfl; rfl; omega; omega; omega; apply w_rem; rfl; rfl; omega; omega; apply w_add; rfl; rfl; omega; omega; apply w_cvb; rfl; apply w_mvi; rfl; apply w_rem; rfl; rfl; omega; omega; apply w_add; rfl; rfl; omega; omega; apply w_cvb; rfl)
      refine w_bs4 (v0 := byteV (UInt8.ofNat ((240 + n / 262144) % 256).toNat)) (v1 := byteV (UInt8.ofNat ((128 + n / 4096 % 64) % 256).toNat)) (v2 := byteV (UInt8.ofNat ((128 + n / 64 % 64) % 256).toNat)) (v3 := byteV (UInt8.ofNat ((128 + n % 64) % 256).toNat)) rfl rfl rfl rfl rfl rfl rfl rfl (fun b8 T8 => ?_)
      have o : GRow 1 RByte d (.slice (some ⟨b8, 0, none⟩) 4 4) (charF n) (bx b8 T8 [byteV (UInt8.ofNat ((240 + n / 262144) % 256).toNat), byteV (UInt8.ofNat ((128 + n / 4096 % 64) % 256).toNat), byteV (UInt8.ofNat ((128 + n / 64 % 64) % 256).toNat), byteV (UInt8.ofNat ((128 + n % 64) % 256).toNat)]) := GRow.litB (by rw [e]; rfl) (by rw [e]; rfl) (by rw [e]; simp)
      (refine w_b2sG (by rfl) (by assumption) (by simp [lk]) ?_; apply w_mvt; rfl; apply w_done0; apply w_ret)
      exact finQ rfl

def FirstOk (P : Program) (f : FuncId) : Prop := ∀ {d : PHeap} {l : List UInt8}, l ≠ [] → l.length ≤ 140737488355328 → GPure P f [strV l] d (.tuple #[.int .i64 (firstF l).1, .int .i64 (firstF l).2])
def g_thimbleref02_First (f_thimbleref02_Char : Nat) : GFun :=
 ⟨47, [(.tmp 2), (.tmp 3)],
 (.seq
 (.reg false (.op false ⟨(some 2), none, (.mv (.const (.int .i64 0)))⟩
  (.op false ⟨(some 3), none, (.mv (.const (.int .i64 0)))⟩ .done)))
 (.seq
 (.reg false (.op false ⟨(some 8), none, (.bld [(0, 1), (1, 1), (2, 1), (3, 1), (4, 1)] [(.int .i64 0), (.int .i64 0), (.int .i64 0), (.int .i64 0), (.int .i64 0)] [(0, (.const (.int .i64 0))), (1, (.const (.int .i64 0))), (2, (.const (.int .i64 192))), (3, (.const (.int .i64 224))), (4, (.const (.int .i64 240)))])⟩
  (.op false ⟨(some 4), none, (.alo (.agg #[(.int .i64 0), (.int .i64 0), (.int .i64 0), (.int .i64 0), (.int .i64 0)]))⟩
  (.op false ⟨none, none, (.st 5 (.tmp 4) (.tmp 8))⟩ .done))))
 (.seq (.seq
 (.reg false (.op false ⟨(some 5), none, (.mv (.const (.int .i64 1)))⟩ .done)) (.block 0 (.loop
 (.seq (.seq
 (.reg false (.op false ⟨(some 9), none, (.mv (.tmp 5))⟩
  (.op false ⟨(some 10), none, (.bin .leq (.tmp 9) (.const (.int .i64 4)))⟩
  (.op false ⟨(some 11), none, (.mv (.tmp 10))⟩
  (.op false ⟨(some 12), (some (11, true)), (.mv (.tmp 5))⟩
  (.op false ⟨(some 13), (some (11, true)), (.mv (.tmp 0))⟩
  (.op false ⟨(some 14), (some (11, true)), (.lens (.tmp 13))⟩
  (.op false ⟨(some 15), (some (11, true)), (.bin .leq (.tmp 12) (.tmp 14))⟩
  (.op false ⟨(some 16), none, (.pick (.tmp 11) (.tmp 15) (.const (.bool false)))⟩ .done))))))))) (.cond (.tmp 16) .skip (.exit 0)))
 (.seq (.block 1
 (.seq
 (.reg true (.op true ⟨(some 19), none, (.mv (.tmp 0))⟩
  (.op true ⟨(some 20), none, (.sidx (.tmp 19) (.const (.int .i64 0)))⟩
  (.op true ⟨(some 21), none, (.cvi .i64 (.tmp 20))⟩
  (.op true ⟨(some 22), none, (.mv (.tmp 5))⟩
  (.op true ⟨(some 23), none, (.idxa 5 1 (.tmp 4) (.tmp 22))⟩
  (.op true ⟨(some 24), none, (.ld none (.tmp 23))⟩
  (.op true ⟨(some 25), none, (.bin .sub (.tmp 21) (.tmp 24))⟩
  (.bar (.op true ⟨(some 6), none, (.mv (.tmp 25))⟩ .done))))))))))
 (.seq (.seq
 (.reg false (.op false ⟨(some 7), none, (.mv (.const (.int .i64 1)))⟩ .done)) (.block 2 (.loop
 (.seq (.seq
 (.reg false (.op false ⟨(some 26), none, (.mv (.tmp 7))⟩
  (.op false ⟨(some 27), none, (.mv (.tmp 5))⟩
  (.op false ⟨(some 28), none, (.bin .lss (.tmp 26) (.tmp 27))⟩ .done)))) (.cond (.tmp 28) .skip (.exit 2)))
 (.seq (.block 3
 (.reg false (.op false ⟨(some 31), none, (.mv (.tmp 6))⟩
  (.op false ⟨(some 32), none, (.bin .mul (.tmp 31) (.const (.int .i64 64)))⟩
  (.op false ⟨(some 33), none, (.mv (.tmp 0))⟩
  (.op false ⟨(some 34), none, (.mv (.tmp 7))⟩
  (.op false ⟨(some 35), none, (.sidx (.tmp 33) (.tmp 34))⟩
  (.op false ⟨(some 36), none, (.cvi .i64 (.tmp 35))⟩
  (.op false ⟨(some 37), none, (.bin .add (.tmp 32) (.tmp 36))⟩
  (.op false ⟨(some 38), none, (.bin .sub (.tmp 37) (.const (.int .i64 128)))⟩
  (.op false ⟨(some 6), none, (.mv (.tmp 38))⟩ .done)))))))))))
 (.reg false (.op false ⟨(some 29), none, (.mv (.tmp 7))⟩
  (.op false ⟨(some 30), none, (.bin .add (.tmp 29) (.const (.int .i64 1)))⟩
  (.op false ⟨(some 7), none, (.mv (.tmp 30))⟩ .done)))))))))
 (.seq
 (.reg true (.op true ⟨(some 39), none, (.mv (.tmp 6))⟩
  (.op true ⟨(some 41), none, (.mv (.tmp 0))⟩
  (.op true ⟨(some 42), none, (.mv (.tmp 5))⟩
  (.op true ⟨(some 43), none, (.sls (.tmp 41) none (some (.tmp 42)))⟩
  (.op false ⟨(some 40), none, (.call f_thimbleref02_Char [(.tmp 39)])⟩
  (.op true ⟨(some 44), none, (.bin .eql (.tmp 40) (.tmp 43))⟩ .done))))))) (.cond (.tmp 44)
 (.seq
 (.reg false (.op false ⟨(some 45), none, (.mv (.tmp 6))⟩
  (.op false ⟨(some 46), none, (.mv (.tmp 5))⟩
  (.op false ⟨(some 2), none, (.mv (.tmp 45))⟩
  (.op false ⟨(some 3), none, (.mv (.tmp 46))⟩ .done))))) .ret) .skip)))))
 (.reg false (.op false ⟨(some 17), none, (.mv (.tmp 5))⟩
  (.op false ⟨(some 18), none, (.bin .add (.tmp 17) (.const (.int .i64 1)))⟩
  (.op false ⟨(some 5), none, (.mv (.tmp 18))⟩ .done)))))))))
 (.seq
 (.reg false (.op false ⟨(some 2), none, (.mv (.const (.int .i64 0)))⟩
  (.op false ⟨(some 3), none, (.mv (.const (.int .i64 0)))⟩ .done))) .ret))))⟩

set_option maxHeartbeats 1000000 in
theorem first_ok {P : Program} {f f1 : FuncId} (hd : dec P f = some (g_thimbleref02_First f1)) (h1 : CharOk P f1) : FirstOk P f := by
  intro d l hne hl
  have hl1 : 1 ≤ l.length := List.length_pos_iff.2 hne
  refine GPure.of' hd (Nat.le_of_ble_eq_true rfl) ?_
  show gwp P _ _ _ _ _
  (apply w_sq; apply w_reg; apply w_mvi; rfl; apply w_mvi; rfl; apply w_done0; apply w_sq; apply w_reg; apply w_bld; rfl; apply w_alo; intro _ _)
  rename_i b4 T4
  refine w_stE 0 [.int .i64 0, .int .i64 0, .int .i64 192, .int .i64 224, .int .i64 240] rfl rfl rfl rfl (Nat.le_of_ble_eq_true rfl) rfl rfl ?_
  (apply w_done0; apply w_sq; apply w_sq; apply w_reg; apply w_mvi; rfl; apply w_done0; apply w_block)
  refine w_loopN (α := Nat) (fun n => [(0, strV l), (4, .pointer (some ⟨b4, 0, none⟩)), (5, .int .i64 n)]) (fun _ => [bx b4 T4 [.int .i64 0, .int .i64 0, .int .i64 192, .int .i64 224, .int .i64 240]])
    (fun n => 1 ≤ n ∧ n ≤ 5 ∧ firstGo l (5 - n) n = firstF l) (fun n => 5 - n) 1 ⟨rfl, rfl, rfl, trivial⟩ rfl ⟨by omega, by omega, rfl⟩ ?_
  rintro n ρ ⟨hn1, hn5, hgo⟩
  by_cases hc : n ≤ 4 ∧ n ≤ l.length
  · obtain ⟨hc1, hc2⟩ := hc
    obtain ⟨g, hg⟩ : ∃ g, 5 - n = g + 1 := ⟨4 - n, by omega⟩
    rw [hg] at hgo
    simp only [firstGo, if_pos (show n ≤ 4 ∧ n ≤ l.length from ⟨hc1, hc2⟩)] at hgo
    have hb0 : 0 ≤ ((l.getD 0 0).toNat : Int) ∧ ((l.getD 0 0).toNat : Int) ≤ 255 := bt_le l 0
    have hl0 : l[0]? = some (l.getD 0 0) := by simp [show 0 < l.length by omega]
    have hhd : [Value.int .i64 0, .int .i64 0, .int .i64 192, .int .i64 224, .int .i64 240][n]? = some (.int .i64 (Utf.hd n)) := by
      obtain rfl | rfl | rfl | rfl : n = 1 ∨ n = 2 ∨ n = 3 ∨ n = 4 := by omega
      · rfl
      · rfl
      · rfl
      · rfl
    have hhl : 0 ≤ Utf.hd n ∧ Utf.hd n ≤ 240 := by unfold Utf.hd; split <;> omega
    (apply w_sq; apply w_sq; apply w_reg; apply w_mvi; rfl; apply w_leq; rfl; rfl; apply w_mvb; rfl; refine w_gdT rfl (by omega) ?_; apply w_gT; rfl; apply w_mvi; rfl; apply w_gT; rfl; apply w_mvt; rfl; apply w_gT; rfl; apply w_lens; rfl; apply w_gT; rfl; apply w_leq; rfl; rfl; apply w_pickTb; rfl; rfl; apply w_done0; refine w_ifdT rfl (by omega) ?_; apply w_skip; apply w_sq; apply w_block; apply w_sq)
    refine w_drawn ?_
    (apply w_mvt; rfl)
    refine w_sidx 0 rfl rfl rfl hl0 ?_
    (apply w_cvi64; rfl; omega; omega; apply w_mvi; rfl)
    refine w_idxa n rfl rfl rfl (by omega) ?_
    refine w_ld rfl (hc_i 0 rfl (by simpa using hhd)) ?_
    (apply w_sub; rfl; rfl; omega; omega; apply w_bar; apply w_mvi; rfl; apply w_done0; apply w_sq; apply w_sq; apply w_reg; apply w_mvi; rfl; apply w_done0; apply w_block)
    refine w_loopN (α := Nat) (fun i => [(0, strV l), (4, .pointer (some ⟨b4, 0, none⟩)), (5, .int .i64 n), (6, .int .i64 (numF l n i)), (7, .int .i64 i)]) (fun _ => [bx b4 T4 [.int .i64 0, .int .i64 0, .int .i64 192, .int .i64 224, .int .i64 240]])
      (fun i => 1 ≤ i ∧ i ≤ n) (fun i => n - i) 1 ⟨rfl, rfl, rfl, int_eq rfl, rfl, trivial⟩ rfl ⟨by omega, hn1⟩ ?_
    rintro i ρ ⟨hi1, hi2⟩
    have hnb := numF_le l (n := n) (i := i) (by omega)
    by_cases hc3 : i < n
    · have hbi := bt_le l i
      have hli : l[i]? = some (l.getD i 0) := by simp [show i < l.length by omega]
      (apply w_sq; apply w_sq; apply w_reg; apply w_mvi; rfl; apply w_mvi; rfl; apply w_lss; rfl; rfl; apply w_done0; refine w_ifdT rfl (by omega) ?_; apply w_skip; apply w_sq; apply w_block; apply w_reg; apply w_mvi; rfl; apply w_mul; rfl; rfl; omega; omega; apply w_mvt; rfl; apply w_mvi; rfl)
      refine w_sidx i rfl rfl rfl hli ?_
      have hbi' : 0 ≤ ((l.getD i 0).toNat : Int) ∧ ((l.getD i 0).toNat : Int) ≤ 255 := hbi
      (apply w_cvi64; rfl; omega; omega; apply w_add; rfl; rfl; omega; omega; apply w_sub; rfl; rfl; omega; omega; apply w_mvi; rfl; apply w_done0; apply w_reg; apply w_mvi; rfl; apply w_add; rfl; rfl; omega; omega; apply w_mvi; rfl; apply w_done0)
      refine ⟨i + 1, by omega, ⟨rfl, rfl, rfl, ?_, int_eq (by omega), trivial⟩, rfl, rfl, by omega, by omega⟩
      obtain ⟨j, rfl⟩ : ∃ j, i = j + 1 := ⟨i - 1, by omega⟩
      rfl
    · obtain rfl : i = n := by omega
      (apply w_sq; apply w_sq; apply w_reg; apply w_mvi; rfl; apply w_mvi; rfl; apply w_lss; rfl; rfl; apply w_done0; refine w_ifdF rfl (by omega) ?_; apply w_exit; apply w_sq; apply w_drawn; apply w_mvi; rfl; apply w_mvt; rfl; apply w_mvi; rfl)
      refine w_slsTo (n := i) rfl rfl rfl hc2 ?_
      refine w_pure rfl (h1 ⟨by omega, by omega⟩) ?_
      by_cases he : charF (numF l i i) = l.take i
      · (apply w_seq; rfl; rfl; apply w_done; refine w_ifdT rfl (by omega) ?_; apply w_sq; apply w_reg; apply w_mvi; rfl; apply w_mvi; rfl; apply w_mvi; rfl; apply w_mvi; rfl; apply w_done0; apply w_ret)
        rw [if_pos he] at hgo
        rw [← hgo]
        exact finQ2 rfl rfl
      · (apply w_seq; rfl; rfl; apply w_done; refine w_ifdF rfl (by omega) ?_; apply w_skip; apply w_reg; apply w_mvi; rfl; apply w_add; rfl; rfl; omega; omega; apply w_mvi; rfl; apply w_done0)
        rw [if_neg he] at hgo
        exact ⟨i + 1, by omega, ⟨rfl, rfl, int_eq (by omega), trivial⟩, rfl, rfl, by omega, by omega, by rw [show 5 - (i + 1) = g by omega]; exact hgo⟩
  · have hz : firstF l = (0, 0) := by
      rw [← hgo]
      cases h : 5 - n with
      | zero => rfl
      | succ g => simp only [firstGo]; rw [if_neg hc]
    rw [hz]
    by_cases hc4 : n ≤ 4
    · have hc5 : ¬ n ≤ l.length := fun h => hc ⟨hc4, h⟩
      (apply w_sq; apply w_sq; apply w_reg; apply w_mvi; rfl; apply w_leq; rfl; rfl; apply w_mvb; rfl; refine w_gdT rfl (by omega) ?_; apply w_gT; rfl; apply w_mvi; rfl; apply w_gT; rfl; apply w_mvt; rfl; apply w_gT; rfl; apply w_lens; rfl; apply w_gT; rfl; apply w_leq; rfl; rfl; apply w_pickTb; rfl; rfl; apply w_done0; refine w_ifdF rfl (by omega) ?_; apply w_exit; apply w_sq; apply w_reg; apply w_mvi; rfl; apply w_mvi; rfl; apply w_done0; apply w_ret)
      exact finQ2 rfl rfl
    · (apply w_sq; apply w_sq; apply w_reg; apply w_mvi; rfl; apply w_leq; rfl; rfl; apply w_mvb; rfl; refine w_gdF rfl (by omega) ?_; apply w_gF; rfl; apply w_gF; rfl; apply w_gF; rfl; apply w_gF; rfl; apply w_pickFb; rfl; rfl; apply w_done0; apply w_ifF; rfl; apply w_exit; apply w_sq; apply w_reg; apply w_mvi; rfl; apply w_mvi; rfl; apply w_done0; apply w_ret)
      exact finQ2 rfl rfl

def g_thimbleref02_Right (f_thimbleref02_First : Nat) : GFun :=
 ⟨18, [(.tmp 2)],
 (.seq
 (.reg false (.op false ⟨(some 2), none, (.mv (.const (.bool false)))⟩ .done))
 (.seq (.block 0 (.loop
 (.seq (.seq
 (.reg false (.op false ⟨(some 5), none, (.mv (.tmp 0))⟩
  (.op false ⟨(some 6), none, (.lens (.tmp 5))⟩
  (.op false ⟨(some 7), none, (.bin .gtr (.tmp 6) (.const (.int .i64 0)))⟩ .done)))) (.cond (.tmp 7) .skip (.exit 0))) (.block 1
 (.seq
 (.reg false (.op false ⟨(some 9), none, (.mv (.tmp 0))⟩
  (.op false ⟨(some 10), none, (.call f_thimbleref02_First [(.tmp 9)])⟩
  (.op false ⟨(some 8), none, (.mv (.tmp 10))⟩
  (.op false ⟨(some 11), none, (.ext (.tmp 8) 0)⟩
  (.op false ⟨(some 12), none, (.ext (.tmp 8) 1)⟩
  (.op false ⟨(some 3), none, (.mv (.tmp 11))⟩
  (.op false ⟨(some 4), none, (.mv (.tmp 12))⟩ .done))))))))
 (.seq (.seq
 (.reg false (.op false ⟨(some 13), none, (.mv (.tmp 4))⟩
  (.op false ⟨(some 14), none, (.bin .eql (.tmp 13) (.const (.int .i64 0)))⟩ .done))) (.cond (.tmp 14)
 (.seq
 (.reg false (.op false ⟨(some 2), none, (.mv (.const (.bool false)))⟩ .done)) .ret) .skip))
 (.reg false (.op false ⟨(some 15), none, (.mv (.tmp 0))⟩
  (.op false ⟨(some 16), none, (.mv (.tmp 4))⟩
  (.op false ⟨(some 17), none, (.sls (.tmp 15) (some (.tmp 16)) none)⟩
  (.op false ⟨(some 0), none, (.mv (.tmp 17))⟩ .done)))))))))))
 (.seq
 (.reg false (.op false ⟨(some 2), none, (.mv (.const (.bool true)))⟩ .done)) .ret)))⟩

theorem rquote_ok {T : PHeap → Prop} {P : Program} {f f1 : FuncId} (hd : dec P f = some (g_thimbleref02_Right f1)) (h1 : FirstOk P f1) : QuoteOk T P f := by
  intro d l ht hl
  refine GPure.of' hd (Nat.le_of_ble_eq_true rfl) ?_
  show gwp P _ _ _ _ _
  (apply w_sq; apply w_reg; apply w_mvb; rfl; apply w_done0; apply w_sq; apply w_block)
  refine w_loopN (α := List UInt8) (fun l' => [(0, strV l')]) (fun _ => []) (fun l' => l'.length ≤ l.length ∧ u8 l' = u8 l) (fun l' => l'.length) l ⟨rfl, trivial⟩ rfl ⟨Nat.le_refl _, rfl⟩ ?_
  rintro l' ρ ⟨hle, hu⟩
  by_cases hc : l' = []
  · have h0 : l'.length = 0 := by rw [hc]; rfl
    (apply w_sq; apply w_sq; apply w_reg; apply w_mvt; rfl; apply w_lens; rfl; apply w_gtr; rfl; rfl; apply w_done0; refine w_ifdF rfl (by omega) ?_; apply w_exit; apply w_sq; apply w_reg; apply w_mvb; rfl; apply w_done0; apply w_ret)
    apply finQb; rfl
    rw [← hu, hc]; rfl
  · have hpos : 1 ≤ l'.length := List.length_pos_iff.2 hc
    have hs := u8_step hc
    have hw := firstGo_le l' 4 1
    have hw : 0 ≤ (firstF l').2 ∧ (firstF l').2 ≤ l'.length := hw
    (apply w_sq; apply w_sq; apply w_reg; apply w_mvt; rfl; apply w_lens; rfl; apply w_gtr; rfl; rfl; apply w_done0; refine w_ifdT rfl (by omega) ?_; apply w_skip; apply w_block; apply w_sq; apply w_reg; apply w_mvt; rfl)
    refine w_pure rfl (h1 hc (by omega)) ?_
    by_cases h0 : (firstF l').2 = 0
    · (apply w_mvu; rfl; apply w_ext; rfl; rfl; apply w_ext; rfl; rfl; apply w_mvi; rfl; apply w_mvi; rfl; apply w_done0; apply w_sq; apply w_sq; apply w_reg; apply w_mvi; rfl; apply w_eql; rfl; rfl; apply w_done0; refine w_ifdT rfl (by omega) ?_; apply w_sq; apply w_reg; apply w_mvb; rfl; apply w_done0; apply w_ret)
      apply finQb; rfl
      rw [← hu, u8, hs, if_pos h0]
    · (apply w_mvu; rfl; apply w_ext; rfl; rfl; apply w_ext; rfl; rfl; apply w_mvi; rfl; apply w_mvi; rfl; apply w_done0; apply w_sq; apply w_sq; apply w_reg; apply w_mvi; rfl; apply w_eql; rfl; rfl; apply w_done0; refine w_ifdF rfl (by omega) ?_; apply w_skip; apply w_reg; apply w_mvt; rfl; apply w_mvi; rfl)
      refine w_slsFrom (n := (firstF l').2.toNat) rfl rfl (by omega) (by omega) ?_
      (apply w_mvt; rfl; apply w_done0)
      refine ⟨l'.drop (firstF l').2.toNat, by simp; omega, ⟨rfl, trivial⟩, rfl, rfl, by simp; omega, ?_⟩
      rw [← hu, u8, u8, hs, if_neg h0]
end Go.Gk.Val
end

section
namespace Go.Gk.Num
open Go

def digN (n : Nat) : List Nat := if _ : n = 0 then [] else digN (n / 10) ++ [n % 10]
termination_by n
decreasing_by omega
theorem digN_zero : digN 0 = [] := by rw [digN]; simp
theorem digN_pos {n : Nat} (h : n ≠ 0) : digN n = digN (n / 10) ++ [n % 10] := by rw [digN]; simp [h]
def val (l : List Nat) : Nat := l.foldl (fun m d => m * 10 + d) 0
theorem val_snoc (l : List Nat) (d : Nat) : val (l ++ [d]) = val l * 10 + d := by simp [val]
theorem digN_induct {p : Nat → Prop} (h0 : p 0) (hs : ∀ n, n ≠ 0 → p (n / 10) → p n) (n : Nat) : p n := by
  induction n using Nat.strongRecOn with
  | _ n ih => by_cases h : n = 0
              · subst h; exact h0
              · exact hs n h (ih _ (by omega))
theorem val_digN (n : Nat) : val (digN n) = n := by
  induction n using digN_induct with
  | h0 => rw [digN_zero]; rfl
  | hs n h ih => rw [digN_pos h, val_snoc, ih]; omega
theorem digN_lt (n : Nat) : ∀ d ∈ digN n, d < 10 := by
  induction n using digN_induct with
  | h0 => rw [digN_zero]; simp
  | hs n h ih =>
    rw [digN_pos h]
    intro d hd
    rcases List.mem_append.1 hd with hd | hd
    · exact ih d hd
    · rw [List.mem_singleton.1 hd]; omega
theorem digN_len (n : Nat) : ∀ k, (digN n).length ≤ k ↔ n < 10 ^ k := by
  induction n using digN_induct with
  | h0 => intro k; rw [digN_zero]; simp; exact Nat.pow_pos (by omega)
  | hs n h ih =>
    intro k
    rw [digN_pos h, List.length_append, List.length_singleton]
    cases k with
    | zero => simp; omega
    | succ k =>
      have := ih k
      rw [Nat.pow_succ]
      constructor
      · intro h1; have := this.1 (by omega); omega
      · intro h1; have := this.2 (by omega); omega
theorem digN_head {n : Nat} (h : n ≠ 0) : ∃ d l, digN n = d :: l ∧ d ≠ 0 := by
  induction n using digN_induct with
  | h0 => exact absurd rfl h
  | hs n hn ih =>
    by_cases h1 : n / 10 = 0
    · refine ⟨n % 10, [], ?_, by omega⟩
      rw [digN_pos hn, h1, digN_zero]; rfl
    · obtain ⟨d, l, e, hd⟩ := ih h1
      exact ⟨d, l ++ [n % 10], by rw [digN_pos hn, e]; rfl, hd⟩
def lead : List Nat → List Nat
  | 0 :: l => lead l
  | l => l
def trail : Nat → List Nat → Int → List Nat × Int
  | 0, l, e => (l, e)
  | f + 1, l, e => if l.getLast? = some 0 then trail f l.dropLast (e + 1) else (l, e)
def shortF (neg : Bool) (l : List Nat) (e : Int) : Int × Int × Int :=
  let p := trail (lead l).length (lead l) e
  if p.1 = [] then (0, 0, 0) else
  if p.1.length > 18 ∨ p.2 < -64 ∨ p.2 > 64 then (0, 0, 11) else
  (if neg then -(val p.1 : Int) else (val p.1 : Int), p.2, 0)
theorem trail_ge : ∀ f l (e : Int), e ≤ (trail f l e).2
  | 0, l, e => Int.le_refl e
  | f + 1, l, e => by
    simp only [trail]
    split
    · have := trail_ge f l.dropLast (e + 1); omega
    · exact Int.le_refl e
theorem trail_cons : ∀ f d l (e : Int), d ≠ 0 → ∃ l', (trail f (d :: l) e).1 = d :: l'
  | 0, d, l, e, _ => ⟨l, rfl⟩
  | f + 1, d, l, e, hd => by
    simp only [trail]
    split
    · rename_i h
      cases l with
      | nil => simp at h; exact absurd h hd
      | cons a l => rw [List.dropLast_cons_cons]; exact trail_cons f d _ _ hd
    · exact ⟨l, rfl⟩
theorem short_right (m e : Int) (h1 : -64 ≤ e) (h2 : e ≤ 64) : ((shortF (decide (m < 0)) (digN m.natAbs) e).2.2 = 0 ∧ (shortF (decide (m < 0)) (digN m.natAbs) e).1 = m ∧ (shortF (decide (m < 0)) (digN m.natAbs) e).2.1 = e) ↔
    (if m = 0 then e = 0 else (-1000000000000000000 < m ∧ m < 1000000000000000000 ∧ m % 10 ≠ 0 ∧ -64 ≤ e ∧ e ≤ 64)) := by
  by_cases h0 : m = 0
  · subst h0
    rw [show (0 : Int).natAbs = 0 from rfl, digN_zero]
    simp [shortF, lead, trail, eq_comm]
  · rw [if_neg h0]
    have hn : m.natAbs ≠ 0 := by omega
    obtain ⟨d, l, hdl, hd0⟩ := digN_head hn
    have hlead : lead (digN m.natAbs) = digN m.natAbs := by
      rw [hdl]
      cases d with
      | zero => exact absurd rfl hd0
      | succ d => rfl
    have hlast : (digN m.natAbs).getLast? = some (m.natAbs % 10) := by rw [digN_pos hn]; simp
    have hlen : (digN m.natAbs).length ≠ 0 := by rw [hdl]; simp
    obtain ⟨f, hf⟩ : ∃ f, (digN m.natAbs).length = f + 1 := ⟨(digN m.natAbs).length - 1, by omega⟩
    have h18 := digN_len m.natAbs 18
    have hv := val_digN m.natAbs
    by_cases h10 : m.natAbs % 10 = 0
    · have hlast' : (digN m.natAbs).getLast? = some 0 := by rw [hlast, h10]
      have ht : trail (digN m.natAbs).length (digN m.natAbs) e = trail f (digN m.natAbs).dropLast (e + 1) := by rw [hf, trail, if_pos hlast']
      have hge : e + 1 ≤ (trail (lead (digN m.natAbs)).length (lead (digN m.natAbs)) e).2 := by rw [hlead, ht]; exact trail_ge _ _ _
      obtain ⟨l', hl'⟩ := trail_cons (digN m.natAbs).length d l e hd0
      have hne : ¬ (trail (lead (digN m.natAbs)).length (lead (digN m.natAbs)) e).1 = [] := by rw [hlead]; rw [← hdl] at hl'; rw [hl']; simp
      constructor
      · rintro ⟨a, b, c⟩
        exfalso
        simp only [shortF, if_neg hne] at a c
        split at a
        · simp at a
        · rename_i hc; rw [if_neg hc] at c; simp only at c; omega
      · rintro ⟨_, _, h, _⟩
        omega
    · have hlast' : ¬ (digN m.natAbs).getLast? = some 0 := by rw [hlast]; simpa using h10
      have ht : trail (lead (digN m.natAbs)).length (lead (digN m.natAbs)) e = (digN m.natAbs, e) := by rw [hlead, hf, trail, if_neg hlast']
      have hne : ¬ digN m.natAbs = [] := by rw [hdl]; simp
      have hp : (10 : Nat) ^ 18 = 1000000000000000000 := by decide
      simp only [shortF, ht, if_neg hne]
      by_cases hb : (digN m.natAbs).length > 18
      · rw [if_pos (.inl hb)]
        constructor
        · rintro ⟨a, _⟩; simp at a
        · rintro ⟨a, b, _⟩
          exfalso
          have := h18.2 (by rw [hp]; omega)
          omega
      · rw [if_neg (by omega), hv]
        have h3 := h18.1 (by omega)
        rw [hp] at h3
        constructor
        · intro _; omega
        · intro _
          refine ⟨rfl, ?_, rfl⟩
          by_cases hm : m < 0
          · simp [hm]; omega
          · simp [hm]; omega
end Go.Gk.Num
end

section
namespace Go.Gk.Val
open Go Go.Gk Go.Gk.Num
attribute [local irreducible] gwp gws

def ints (l : List Nat) : List Int := l.map Int.ofNat
def LongOk (P : Program) (f : FuncId) : Prop := ∀ {d : PHeap} {m e : Int}, I64 m → I64 e → GCall P f [.agg [.int .i64 m, .int .i64 e].toArray] d [] (Ret fun r d' L' => L' = [] ∧ ∃ dv, r = .agg [.bool (decide (m < 0)), dv, .int .i64 e].toArray ∧ RInts d' dv (ints (digN m.natAbs)))
def g_thimbleref01_long : GFun :=
 ⟨31, [(.cell 2 (some 3))],
 (.seq
 (.reg false (.op false ⟨(some 1), none, (.box (.tmp 0))⟩
  (.op false ⟨(some 2), none, (.alo (.agg #[(.bool false), (.slice none 0 0), (.int .i64 0)]))⟩ .done)))
 (.seq
 (.reg false (.op false ⟨(some 6), none, (.fld 0 (.tmp 1))⟩
  (.op false ⟨(some 7), none, (.ld none (.tmp 6))⟩
  (.op false ⟨(some 8), none, (.bin .lss (.tmp 7) (.const (.int .i64 0)))⟩
  (.op false ⟨(some 9), none, (.fld 1 (.tmp 1))⟩
  (.op false ⟨(some 10), none, (.ld none (.tmp 9))⟩
  (.op false ⟨(some 11), none, (.bld [(0, 1), (1, 1), (2, 1)] [(.bool false), (.slice none 0 0), (.int .i64 0)] [(0, (.tmp 8)), (2, (.tmp 10))])⟩
  (.op false ⟨(some 3), none, (.alo (.agg #[(.bool false), (.slice none 0 0), (.int .i64 0)]))⟩
  (.op false ⟨none, none, (.st 3 (.tmp 3) (.tmp 11))⟩ .done)))))))))
 (.seq
 (.reg false (.op false ⟨(some 12), none, (.fld 0 (.tmp 1))⟩
  (.op false ⟨(some 13), none, (.ld none (.tmp 12))⟩
  (.op false ⟨(some 4), none, (.mv (.tmp 13))⟩ .done))))
 (.seq (.block 0 (.loop
 (.seq (.seq
 (.reg false (.op false ⟨(some 14), none, (.mv (.tmp 4))⟩
  (.op false ⟨(some 15), none, (.bin .neq (.tmp 14) (.const (.int .i64 0)))⟩ .done))) (.cond (.tmp 15) .skip (.exit 0))) (.block 1
 (.seq
 (.reg false (.op false ⟨(some 16), none, (.mv (.tmp 4))⟩
  (.op false ⟨(some 17), none, (.bin .rem (.tmp 16) (.const (.int .i64 10)))⟩
  (.op false ⟨(some 5), none, (.mv (.tmp 17))⟩ .done))))
 (.seq (.seq
 (.reg false (.op false ⟨(some 18), none, (.mv (.tmp 5))⟩
  (.op false ⟨(some 19), none, (.bin .lss (.tmp 18) (.const (.int .i64 0)))⟩ .done))) (.cond (.tmp 19)
 (.reg false (.op false ⟨(some 20), none, (.mv (.tmp 5))⟩
  (.op false ⟨(some 21), none, (.un .neg (.tmp 20))⟩
  (.op false ⟨(some 5), none, (.mv (.tmp 21))⟩ .done)))) .skip))
 (.seq
 (.reg false (.op false ⟨(some 22), none, (.mv (.tmp 5))⟩
  (.op false ⟨(some 23), none, (.bsl 1 1 [(.int .i64 0)] [(0, (.tmp 22))])⟩
  (.op false ⟨(some 24), none, (.fld 1 (.tmp 3))⟩
  (.op false ⟨(some 25), none, (.ld none (.tmp 24))⟩
  (.op false ⟨(some 26), none, (.app 1 8 [(.int .i64 0)] (.tmp 23) (.tmp 25))⟩
  (.op false ⟨(some 27), none, (.fld 1 (.tmp 3))⟩
  (.op false ⟨none, none, (.st 1 (.tmp 27) (.tmp 26))⟩ .done))))))))
 (.reg false (.op false ⟨(some 28), none, (.mv (.tmp 4))⟩
  (.op false ⟨(some 29), none, (.bin .quo (.tmp 28) (.const (.int .i64 10)))⟩
  (.op false ⟨(some 4), none, (.mv (.tmp 29))⟩ .done)))))))))))
 (.seq
 (.reg false (.op false ⟨(some 30), none, (.ld (some 3) (.tmp 3))⟩
  (.op false ⟨none, none, (.st 3 (.tmp 2) (.tmp 30))⟩ .done))) .ret)))))⟩

set_option maxHeartbeats 1000000 in
theorem long_ok {P : Program} {f : FuncId} (hd : dec P f = some g_thimbleref01_long) : LongOk P f := by
  intro d m e hm he
  obtain ⟨hm1, hm2⟩ := hm
  refine GCall_of hd (Nat.le_of_ble_eq_true rfl) ?_
  have h19 := (digN_len m.natAbs 19).2 (by have : (10 : Nat) ^ 19 = 10000000000000000000 := by decide
                                           omega)
  show gwp P _ _ _ _ _
  (apply w_sq; apply w_reg; apply w_boxa; rfl; intro _ _; apply w_alo; intro _ _; apply w_done0; apply w_sq; apply w_reg; apply w_fld; rfl; apply w_ld; rfl; exact hc_i 1 rfl rfl; apply w_lss; rfl; rfl; apply w_fld; rfl; apply w_ld; rfl; exact hc_i 1 rfl rfl; apply w_bld; rfl; apply w_alo; intro _ _)
  rename_i b1 T1 b2 T2 b3 T3
  refine w_stE 0 [.bool (decide (m < 0)), .slice none 0 0, .int .i64 e] rfl rfl rfl rfl (Nat.le_of_ble_eq_true rfl) rfl rfl ?_
  (apply w_done0; apply w_sq; apply w_reg; apply w_fld; rfl; apply w_ld; rfl; exact hc_i 2 rfl rfl; apply w_mvi; rfl; apply w_done0; apply w_sq; apply w_block)
  refine w_loopS (α := Int) (fun k => [(2, .pointer (some ⟨b2, 0, none⟩)), (3, .pointer (some ⟨b3, 0, none⟩)), (4, .int .i64 k)])
    (fun k d' L' => Le d d' ∧ -9223372036854775808 ≤ k ∧ k ≤ 9223372036854775807 ∧ ∃ (D : List Nat) (a : Option Addr) (c : Nat), digN k.natAbs ++ D = digN m.natAbs ∧ (∀ n ∈ D, n < 10) ∧ RInts d' (.slice a D.length c) (ints D) ∧ L' = [bx b3 T3 [.bool (decide (m < 0)), .slice a D.length c, .int .i64 e], bx b2 T2 [.bool false, .slice none 0 0, .int .i64 0], bx b1 T1 [.int .i64 m, .int .i64 e]])
    (fun k => k.natAbs) m ⟨rfl, rfl, rfl, trivial⟩ ⟨Le.refl d, hm1, hm2, [], none, 0, by simp, by simp, (RSl.nil : RSl 1 RInt d (.slice none 0 0) []), rfl⟩ ?_
  rintro k ρ d' L' ⟨hl, hk1, hk2, D, a, c, hdig, hlt, hr, hL⟩
  subst hL
  by_cases hk0 : k = 0
  · subst hk0
    rw [show (0 : Int).natAbs = 0 from rfl, digN_zero, List.nil_append] at hdig
    (apply w_sq; apply w_sq; apply w_reg; apply w_mvi; rfl; apply w_neq; rfl; rfl; apply w_done0; refine w_ifdF rfl (by omega) ?_; apply w_exit; apply w_sq; apply w_reg; apply w_ldb 0; rfl; rfl; rfl)
    refine w_stE 1 [.bool (decide (m < 0)), .slice a D.length c, .int .i64 e] rfl rfl rfl rfl (Nat.le_of_ble_eq_true rfl) rfl rfl ?_
    (apply w_done0; apply w_ret)
    refine finS [.agg [.bool (decide (m < 0)), .slice a D.length c, .int .i64 e].toArray] ⟨res_cell 1 rfl rfl rfl, trivial⟩ (List.nil_sublist _) ⟨rfl, _, rfl, by rw [← hdig]; exact hr⟩
  · have hpos := digN_pos (n := k.natAbs) (by omega)
    have hmod : (k.tmod 10).natAbs = k.natAbs % 10 := by rw [Int.natAbs_tmod]; rfl
    have hdiv : (k.tdiv 10).natAbs = k.natAbs / 10 := by rw [Int.natAbs_tdiv]; rfl
    have hDl : D.length + 1 ≤ 19 := by
      have := congrArg List.length hdig
      rw [List.length_append, hpos, List.length_append, List.length_singleton] at this
      omega
    have hnext : ∀ (g : Nat), g = k.natAbs % 10 → digN (k.tdiv 10).natAbs ++ (g :: D) = digN m.natAbs := by
      intro g hg
      rw [← hdig, hpos, hdiv, hg, List.append_assoc]; rfl
    have hmb : (k.tmod 10).natAbs < 10 := by omega
    by_cases hneg : k.tmod 10 < 0
    · (apply w_sq; apply w_sq; apply w_reg; apply w_mvi; rfl; apply w_neq; rfl; rfl; apply w_done0; refine w_ifdT rfl (by omega) ?_; apply w_skip; apply w_block; apply w_sq; apply w_reg; apply w_mvi; rfl; apply w_remT; rfl; rfl; omega; apply w_mvi; rfl; apply w_done0; apply w_sq; apply w_sq; apply w_reg; apply w_mvi; rfl; apply w_lss; rfl; rfl; apply w_done0; refine w_ifdT rfl (by omega) ?_; apply w_reg; apply w_mvi; rfl; apply w_neg; rfl; omega; omega; apply w_mvi; rfl; apply w_done0; apply w_sq; apply w_reg; apply w_mvi; rfl)
      refine w_bs1 (v0 := .int .i64 (-(k.tmod 10))) rfl rfl (fun b8 T8 => ?_)
      have hge : (-(k.tmod 10)) = ((k.natAbs % 10 : Nat) : Int) := by omega
      (apply w_fld; rfl; apply w_ld; rfl; exact hc_i 1 rfl rfl)
      refine w_appG (R := RInt) (w := .slice a D.length c) (xs := [((k.natAbs % 10 : Nat) : Int)]) (ys := ints D) 0 rfl rfl (GRow.lit1 (x := ((k.natAbs % 10 : Nat) : Int)) rfl ⟨congrArg (fun z => [Value.int .i64 z]) hge, by omega, by omega⟩) rfl (RSl.src (R := RInt) (xs := ints D) hr cell1_int (by omega) _) (by omega) (by simp [ints]; omega) (by simp [ints]; omega) (fun v9 h9 o9 => ?_)
      refine w_frz (fun d9 hl9 hg9 => ?_)
      have hr9 : RInts d9 v9 (ints (k.natAbs % 10 :: D)) := o9.rsl mono_int (by omega) hl9 hg9
      obtain ⟨a9, c9, rfl⟩ : ∃ a9 c9, v9 = .slice a9 (k.natAbs % 10 :: D).length c9 := by
        obtain ⟨a9, c9, e9⟩ := o9.val
        exact ⟨a9, c9, by rw [e9]; simp [ints]⟩
      (apply w_fld; rfl)
      refine w_stE 0 [.bool (decide (m < 0)), .slice a9 (k.natAbs % 10 :: D).length c9, .int .i64 e] rfl rfl rfl rfl (Nat.le_of_ble_eq_true rfl) rfl rfl ?_
      (apply w_done0; apply w_reg; apply w_mvi; rfl; apply w_quoT; rfl; rfl; omega; omega; omega; apply w_mvi; rfl; apply w_done0)
      refine ⟨k.tdiv 10, by omega, ⟨rfl, rfl, rfl, trivial⟩, hl.trans hl9, by omega, by omega, k.natAbs % 10 :: D, a9, c9, hnext _ rfl, ?_, hr9, rfl⟩
      intro n hn
      rcases List.mem_cons.1 hn with rfl | hn
      · omega
      · exact hlt n hn
    · (apply w_sq; apply w_sq; apply w_reg; apply w_mvi; rfl; apply w_neq; rfl; rfl; apply w_done0; refine w_ifdT rfl (by omega) ?_; apply w_skip; apply w_block; apply w_sq; apply w_reg; apply w_mvi; rfl; apply w_remT; rfl; rfl; omega; apply w_mvi; rfl; apply w_done0; apply w_sq; apply w_sq; apply w_reg; apply w_mvi; rfl; apply w_lss; rfl; rfl; apply w_done0; refine w_ifdF rfl (by omega) ?_; apply w_skip; apply w_sq; apply w_reg; apply w_mvi; rfl)
      refine w_bs1 (v0 := .int .i64 (k.tmod 10)) rfl rfl (fun b8 T8 => ?_)
      have hge : (k.tmod 10) = ((k.natAbs % 10 : Nat) : Int) := by omega
      (apply w_fld; rfl; apply w_ld; rfl; exact hc_i 1 rfl rfl)
      refine w_appG (R := RInt) (w := .slice a D.length c) (xs := [((k.natAbs % 10 : Nat) : Int)]) (ys := ints D) 0 rfl rfl (GRow.lit1 (x := ((k.natAbs % 10 : Nat) : Int)) rfl ⟨congrArg (fun z => [Value.int .i64 z]) hge, by omega, by omega⟩) rfl (RSl.src (R := RInt) (xs := ints D) hr cell1_int (by omega) _) (by omega) (by simp [ints]; omega) (by simp [ints]; omega) (fun v9 h9 o9 => ?_)
      refine w_frz (fun d9 hl9 hg9 => ?_)
      have hr9 : RInts d9 v9 (ints (k.natAbs % 10 :: D)) := o9.rsl mono_int (by omega) hl9 hg9
      obtain ⟨a9, c9, rfl⟩ : ∃ a9 c9, v9 = .slice a9 (k.natAbs % 10 :: D).length c9 := by
        obtain ⟨a9, c9, e9⟩ := o9.val
        exact ⟨a9, c9, by rw [e9]; simp [ints]⟩
      (apply w_fld; rfl)
      refine w_stE 0 [.bool (decide (m < 0)), .slice a9 (k.natAbs % 10 :: D).length c9, .int .i64 e] rfl rfl rfl rfl (Nat.le_of_ble_eq_true rfl) rfl rfl ?_
      (apply w_done0; apply w_reg; apply w_mvi; rfl; apply w_quoT; rfl; rfl; omega; omega; omega; apply w_mvi; rfl; apply w_done0)
      refine ⟨k.tdiv 10, by omega, ⟨rfl, rfl, rfl, trivial⟩, hl.trans hl9, by omega, by omega, k.natAbs % 10 :: D, a9, c9, hnext _ rfl, ?_, hr9, rfl⟩
      intro n hn
      rcases List.mem_cons.1 hn with rfl | hn
      · omega
      · exact hlt n hn

theorem ints_len (l : List Nat) : (ints l).length = l.length := by simp [ints]
theorem ints_at (l : List Nat) {i : Nat} (h : i < (ints l).length) : (ints l)[i] = ((l[i]'(by rw [ints_len] at h; exact h) : Nat) : Int) := by simp [ints]
theorem val_lt : ∀ (n : Nat) (l : List Nat), l.length = n → (∀ d ∈ l, d < 10) → val l < 10 ^ n := by
  intro n
  induction n with
  | zero => intro l h _; rw [List.eq_nil_of_length_eq_zero h]; decide
  | succ n ih =>
    intro l h hl
    have hne : l ≠ [] := by intro h2; subst h2; simp at h
    rw [← List.dropLast_concat_getLast hne, val_snoc, Nat.pow_succ]
    have h1 := ih l.dropLast (by simp [h]) (fun d hd => hl d (List.dropLast_subset l hd))
    have h2 := hl _ (List.getLast_mem hne)
    omega
def ShortOk (P : Program) (f : FuncId) : Prop := ∀ {d : PHeap} {neg : Bool} {dv : Value} {D : List Nat} {e : Int}, RInts d dv (ints D) → (∀ n ∈ D, n < 10) → D.length ≤ 100 → -1000 ≤ e → e ≤ 1000 →
  GPure P f [.agg [.bool neg, dv, .int .i64 e].toArray] d (.tuple #[.agg [.int .i64 (shortF neg D e).1, .int .i64 (shortF neg D e).2.1].toArray, .int .i64 (shortF neg D e).2.2])
def g_thimbleref01_short : GFun :=
 ⟨91, [(.cell 2 (some 2)), (.tmp 3)],
 (.seq
 (.reg false (.op false ⟨(some 1), none, (.box (.tmp 0))⟩
  (.op false ⟨(some 2), none, (.alo (.agg #[(.int .i64 0), (.int .i64 0)]))⟩
  (.op false ⟨(some 3), none, (.mv (.const (.int .i64 0)))⟩ .done))))
 (.seq (.block 0 (.loop
 (.seq (.seq
 (.reg false (.op false ⟨(some 6), none, (.fld 1 (.tmp 1))⟩
  (.op false ⟨(some 7), none, (.ld none (.tmp 6))⟩
  (.op false ⟨(some 8), none, (.len (.tmp 7))⟩
  (.op false ⟨(some 9), none, (.bin .gtr (.tmp 8) (.const (.int .i64 0)))⟩
  (.op false ⟨(some 10), none, (.mv (.tmp 9))⟩
  (.op false ⟨(some 11), (some (10, true)), (.fld 1 (.tmp 1))⟩
  (.op false ⟨(some 12), (some (10, true)), (.ld none (.tmp 11))⟩
  (.op false ⟨(some 13), (some (10, true)), (.idx 1 (.tmp 12) (.const (.int .i64 0)))⟩
  (.op false ⟨(some 14), (some (10, true)), (.ld none (.tmp 13))⟩
  (.op false ⟨(some 15), (some (10, true)), (.bin .eql (.tmp 14) (.const (.int .i64 0)))⟩
  (.op false ⟨(some 16), none, (.pick (.tmp 10) (.tmp 15) (.const (.bool false)))⟩ .done)))))))))))) (.cond (.tmp 16) .skip (.exit 0))) (.block 1
 (.reg false (.op false ⟨(some 17), none, (.fld 1 (.tmp 1))⟩
  (.op false ⟨(some 18), none, (.ld none (.tmp 17))⟩
  (.op false ⟨(some 19), none, (.sl 1 (.tmp 18) (some (.const (.int .i64 1))) none none)⟩
  (.op false ⟨(some 20), none, (.fld 1 (.tmp 1))⟩
  (.op false ⟨none, none, (.st 1 (.tmp 20) (.tmp 19))⟩ .done))))))))))
 (.seq (.block 2 (.loop
 (.seq (.seq
 (.reg false (.op false ⟨(some 21), none, (.fld 1 (.tmp 1))⟩
  (.op false ⟨(some 22), none, (.ld none (.tmp 21))⟩
  (.op false ⟨(some 23), none, (.len (.tmp 22))⟩
  (.op false ⟨(some 24), none, (.bin .gtr (.tmp 23) (.const (.int .i64 0)))⟩
  (.op false ⟨(some 25), none, (.mv (.tmp 24))⟩
  (.op false ⟨(some 26), (some (25, true)), (.fld 1 (.tmp 1))⟩
  (.op false ⟨(some 27), (some (25, true)), (.ld none (.tmp 26))⟩
  (.op false ⟨(some 28), (some (25, true)), (.fld 1 (.tmp 1))⟩
  (.op false ⟨(some 29), (some (25, true)), (.ld none (.tmp 28))⟩
  (.op false ⟨(some 30), (some (25, true)), (.len (.tmp 29))⟩
  (.op false ⟨(some 31), (some (25, true)), (.bin .sub (.tmp 30) (.const (.int .i64 1)))⟩
  (.op false ⟨(some 32), (some (25, true)), (.idx 1 (.tmp 27) (.tmp 31))⟩
  (.op false ⟨(some 33), (some (25, true)), (.ld none (.tmp 32))⟩
  (.op false ⟨(some 34), (some (25, true)), (.bin .eql (.tmp 33) (.const (.int .i64 0)))⟩
  (.op false ⟨(some 35), none, (.pick (.tmp 25) (.tmp 34) (.const (.bool false)))⟩ .done)))))))))))))))) (.cond (.tmp 35) .skip (.exit 2))) (.block 3
 (.seq
 (.reg false (.op false ⟨(some 36), none, (.fld 1 (.tmp 1))⟩
  (.op false ⟨(some 37), none, (.ld none (.tmp 36))⟩
  (.op false ⟨(some 38), none, (.fld 1 (.tmp 1))⟩
  (.op false ⟨(some 39), none, (.ld none (.tmp 38))⟩
  (.op false ⟨(some 40), none, (.len (.tmp 39))⟩
  (.op false ⟨(some 41), none, (.bin .sub (.tmp 40) (.const (.int .i64 1)))⟩
  (.op false ⟨(some 42), none, (.sl 1 (.tmp 37) none (some (.tmp 41)) none)⟩
  (.op false ⟨(some 43), none, (.fld 1 (.tmp 1))⟩
  (.op false ⟨none, none, (.st 1 (.tmp 43) (.tmp 42))⟩ .done))))))))))
 (.reg false (.op false ⟨(some 44), none, (.fld 2 (.tmp 1))⟩
  (.op false ⟨(some 45), none, (.ld none (.tmp 44))⟩
  (.op false ⟨(some 46), none, (.bin .add (.tmp 45) (.const (.int .i64 1)))⟩
  (.op false ⟨(some 47), none, (.fld 2 (.tmp 1))⟩
  (.op false ⟨none, none, (.st 1 (.tmp 47) (.tmp 46))⟩ .done)))))))))))
 (.seq (.seq
 (.reg false (.op false ⟨(some 48), none, (.fld 1 (.tmp 1))⟩
  (.op false ⟨(some 49), none, (.ld none (.tmp 48))⟩
  (.op false ⟨(some 50), none, (.len (.tmp 49))⟩
  (.op false ⟨(some 51), none, (.bin .eql (.tmp 50) (.const (.int .i64 0)))⟩ .done))))) (.cond (.tmp 51)
 (.seq
 (.reg false (.op false ⟨(some 52), none, (.bld [(0, 1), (1, 1)] [(.int .i64 0), (.int .i64 0)] [])⟩
  (.op false ⟨none, none, (.st 2 (.tmp 2) (.tmp 52))⟩
  (.op false ⟨(some 3), none, (.mv (.const (.int .i64 0)))⟩ .done)))) .ret) .skip))
 (.seq (.seq
 (.reg false (.op false ⟨(some 53), none, (.fld 1 (.tmp 1))⟩
  (.op false ⟨(some 54), none, (.ld none (.tmp 53))⟩
  (.op false ⟨(some 55), none, (.len (.tmp 54))⟩
  (.op false ⟨(some 56), none, (.bin .gtr (.tmp 55) (.const (.int .i64 18)))⟩
  (.op false ⟨(some 57), none, (.mv (.tmp 56))⟩
  (.op false ⟨(some 58), (some (57, false)), (.fld 2 (.tmp 1))⟩
  (.op false ⟨(some 59), (some (57, false)), (.ld none (.tmp 58))⟩
  (.op false ⟨(some 60), (some (57, false)), (.bin .lss (.tmp 59) (.const (.int .i64 (-64))))⟩
  (.op false ⟨(some 61), none, (.pick (.tmp 57) (.const (.bool true)) (.tmp 60))⟩
  (.op false ⟨(some 62), none, (.mv (.tmp 61))⟩
  (.op false ⟨(some 63), (some (62, false)), (.fld 2 (.tmp 1))⟩
  (.op false ⟨(some 64), (some (62, false)), (.ld none (.tmp 63))⟩
  (.op false ⟨(some 65), (some (62, false)), (.bin .gtr (.tmp 64) (.const (.int .i64 64)))⟩
  (.op false ⟨(some 66), none, (.pick (.tmp 62) (.const (.bool true)) (.tmp 65))⟩ .done))))))))))))))) (.cond (.tmp 66)
 (.seq
 (.reg false (.op false ⟨(some 67), none, (.bld [(0, 1), (1, 1)] [(.int .i64 0), (.int .i64 0)] [])⟩
  (.op false ⟨none, none, (.st 2 (.tmp 2) (.tmp 67))⟩
  (.op false ⟨(some 3), none, (.mv (.const (.int .i64 11)))⟩ .done)))) .ret) .skip))
 (.seq
 (.reg false (.op false ⟨(some 4), none, (.mv (.const (.int .i64 0)))⟩ .done))
 (.seq (.seq
 (.reg false (.op false ⟨(some 5), none, (.mv (.const (.int .i64 0)))⟩ .done)) (.block 4 (.loop
 (.seq (.seq
 (.reg false (.op false ⟨(some 68), none, (.mv (.tmp 5))⟩
  (.op false ⟨(some 69), none, (.fld 1 (.tmp 1))⟩
  (.op false ⟨(some 70), none, (.ld none (.tmp 69))⟩
  (.op false ⟨(some 71), none, (.len (.tmp 70))⟩
  (.op false ⟨(some 72), none, (.bin .lss (.tmp 68) (.tmp 71))⟩ .done)))))) (.cond (.tmp 72) .skip (.exit 4)))
 (.seq (.block 5
 (.reg false (.op false ⟨(some 75), none, (.mv (.tmp 4))⟩
  (.op false ⟨(some 76), none, (.bin .mul (.tmp 75) (.const (.int .i64 10)))⟩
  (.op false ⟨(some 77), none, (.fld 1 (.tmp 1))⟩
  (.op false ⟨(some 78), none, (.ld none (.tmp 77))⟩
  (.op false ⟨(some 79), none, (.mv (.tmp 5))⟩
  (.op false ⟨(some 80), none, (.idx 1 (.tmp 78) (.tmp 79))⟩
  (.op false ⟨(some 81), none, (.ld none (.tmp 80))⟩
  (.op false ⟨(some 82), none, (.bin .add (.tmp 76) (.tmp 81))⟩
  (.op false ⟨(some 4), none, (.mv (.tmp 82))⟩ .done)))))))))))
 (.reg false (.op false ⟨(some 73), none, (.mv (.tmp 5))⟩
  (.op false ⟨(some 74), none, (.bin .add (.tmp 73) (.const (.int .i64 1)))⟩
  (.op false ⟨(some 5), none, (.mv (.tmp 74))⟩ .done)))))))))
 (.seq (.seq
 (.reg false (.op false ⟨(some 83), none, (.fld 0 (.tmp 1))⟩
  (.op false ⟨(some 84), none, (.ld none (.tmp 83))⟩ .done))) (.cond (.tmp 84)
 (.reg false (.op false ⟨(some 85), none, (.mv (.tmp 4))⟩
  (.op false ⟨(some 86), none, (.un .neg (.tmp 85))⟩
  (.op false ⟨(some 4), none, (.mv (.tmp 86))⟩ .done)))) .skip))
 (.seq
 (.reg false (.op false ⟨(some 87), none, (.mv (.tmp 4))⟩
  (.op false ⟨(some 88), none, (.fld 2 (.tmp 1))⟩
  (.op false ⟨(some 89), none, (.ld none (.tmp 88))⟩
  (.op false ⟨(some 90), none, (.bld [(0, 1), (1, 1)] [(.int .i64 0), (.int .i64 0)] [(0, (.tmp 87)), (1, (.tmp 89))])⟩
  (.op false ⟨none, none, (.st 2 (.tmp 2) (.tmp 90))⟩
  (.op false ⟨(some 3), none, (.mv (.const (.int .i64 0)))⟩ .done))))))) .ret)))))))))⟩

set_option maxHeartbeats 1000000 in
theorem short_ok {P : Program} {f : FuncId} (hd : dec P f = some g_thimbleref01_short) : ShortOk P f := by
  intro d neg dv D e hv hlt hDl he1 he2
  obtain ⟨a0, c0, rfl⟩ := RSl.val hv
  rw [ints_len] at hv
  refine GPure.of' hd (Nat.le_of_ble_eq_true rfl) ?_
  obtain ⟨res, hres⟩ : ∃ r, r = shortF neg D e := ⟨_, rfl⟩
  rw [← hres, ints_len]
  show gwp P _ _ _ _ _
  apply w_sq; apply w_reg
  refine w_boxa (l := [.bool neg, .slice a0 D.length c0, .int .i64 e]) rfl (fun b1 T1 => ?_)
  (apply w_alo; intro _ _; apply w_mvi; rfl; apply w_done0)
  rename_i b2 T2
  refine w_mid (fun ρ d' L' => d' = d ∧ SlotsAre ρ [(1, .pointer (some ⟨b1, 0, none⟩)), (2, .pointer (some ⟨b2, 0, none⟩))] ∧ ∃ (D' : List Nat) (a : Option Addr) (c : Nat), D' = lead D ∧ (∀ n ∈ D', n < 10) ∧ D'.length ≤ D.length ∧ RInts d (.slice a D'.length c) (ints D') ∧ L' = [bx b2 T2 [.int .i64 0, .int .i64 0], bx b1 T1 [.bool neg, .slice a D'.length c, .int .i64 e]]) ?_ ?_
  apply w_block
  refine w_loopS (α := List Nat) (fun _ => [(1, .pointer (some ⟨b1, 0, none⟩)), (2, .pointer (some ⟨b2, 0, none⟩))])
    (fun D' d' L' => d' = d ∧ lead D' = lead D ∧ (∀ n ∈ D', n < 10) ∧ D'.length ≤ D.length ∧ ∃ a c, RInts d (.slice a D'.length c) (ints D') ∧ L' = [bx b2 T2 [.int .i64 0, .int .i64 0], bx b1 T1 [.bool neg, .slice a D'.length c, .int .i64 e]])
    (fun D' => D'.length) D ⟨rfl, rfl, trivial⟩ ⟨rfl, rfl, hlt, Nat.le_refl _, a0, c0, hv, rfl⟩ ?_
  clear hv hlt
  rintro D1 ρ d' L' ⟨hdd, hlead, hlt, hl1, a, c, hr, hL⟩
  subst hdd; subst hL
  have hil := ints_len D1
  have exit : lead D1 = D1 → ∀ (x0 : List Nat × Int), x0 = (D1, e) → True := fun _ _ _ => trivial
  by_cases hgo : ∃ l, D1 = 0 :: l
  · obtain ⟨l, rfl⟩ := hgo
    have h0 : (ints (0 :: l))[0]'(by simp [ints]) = 0 := rfl
    have hp : 0 < (0 :: l).length := by simp
    (apply w_sq; apply w_sq; apply w_reg; apply w_fld; rfl; apply w_ld; rfl; exact hc_i 1 rfl rfl; apply w_len; rfl; apply w_gtr; rfl; rfl; apply w_mvb; rfl; refine w_gdT rfl (by omega) ?_; apply w_gT; rfl; apply w_fld; rfl; apply w_gT; rfl; apply w_ld; rfl; exact hc_i 1 rfl rfl; apply w_gT; rfl; refine w_idxR (m := 0) (sz := 1) (R := RInt) (by rfl) (by assumption) (by rfl) rfl (by omega) ?_; rintro _ _ _ _ _ ⟨rfl, _, _⟩; apply w_gT; rfl; apply w_ld; rfl; exact hc_ds0 (by assumption) rfl; apply w_gT; rfl; apply w_eql; rfl; rfl; apply w_pickTb; rfl; rfl; apply w_done0; refine w_ifdT rfl (by omega) ?_; apply w_skip; apply w_block; apply w_reg; apply w_fld; rfl; apply w_ld; rfl; exact hc_i 1 rfl rfl)
    refine w_slFrom (n := 1) rfl hr rfl rfl (by simp [ints]) (fun v1 hv1 => ?_)
    obtain ⟨a1, c1, rfl⟩ : ∃ a1 c1, v1 = .slice a1 l.length c1 := by
      obtain ⟨a1, c1, e1⟩ := RSl.val hv1
      exact ⟨a1, c1, by rw [e1]; simp [ints]⟩
    (apply w_fld; rfl)
    refine w_stE 1 [.bool neg, .slice a1 l.length c1, .int .i64 e] rfl rfl rfl rfl (Nat.le_of_ble_eq_true rfl) rfl rfl ?_
    (apply w_done0)
    exact ⟨l, by simp, ⟨rfl, rfl, trivial⟩, rfl, hlead, fun n hn => hlt n (List.mem_cons_of_mem _ hn), by simp at hl1; omega, a1, c1, hv1, rfl⟩
  · have hlead1 : lead D1 = D1 := by
      cases D1 with
      | nil => rfl
      | cons x l =>
        cases x with
        | zero => exact absurd ⟨l, rfl⟩ hgo
        | succ x => rfl
    cases D1 with
    | nil =>
      have h00 : ([] : List Nat).length = 0 := rfl
      (apply w_sq; apply w_sq; apply w_reg; apply w_fld; rfl; apply w_ld; rfl; exact hc_i 1 rfl rfl; apply w_len; rfl; apply w_gtr; rfl; rfl; apply w_mvb; rfl; refine w_gdF rfl (by omega) ?_; apply w_gF; rfl; apply w_gF; rfl; apply w_gF; rfl; apply w_gF; rfl; apply w_gF; rfl; apply w_pickFb; rfl; rfl; apply w_done0; apply w_ifF; rfl; apply w_exit)
      exact ⟨rfl, ⟨rfl, rfl, trivial⟩, [], a, c, hlead, hlt, hl1, hr, rfl⟩
    | cons x l =>
      have h0 : ¬ (ints (x :: l))[0]'(by simp [ints]) = 0 := by
        rw [ints_at]
        intro h
        have h : (x : Int) = 0 := h
        exact hgo ⟨l, by rw [show x = 0 by omega]⟩
      have hp : 0 < (x :: l).length := by simp
      (apply w_sq; apply w_sq; apply w_reg; apply w_fld; rfl; apply w_ld; rfl; exact hc_i 1 rfl rfl; apply w_len; rfl; apply w_gtr; rfl; rfl; apply w_mvb; rfl; refine w_gdT rfl (by omega) ?_; apply w_gT; rfl; apply w_fld; rfl; apply w_gT; rfl; apply w_ld; rfl; exact hc_i 1 rfl rfl; apply w_gT; rfl; refine w_idxR (m := 0) (sz := 1) (R := RInt) (by rfl) (by assumption) (by rfl) rfl (by omega) ?_; rintro _ _ _ _ _ ⟨rfl, _, _⟩; apply w_gT; rfl; apply w_ld; rfl; exact hc_ds0 (by assumption) rfl; apply w_gT; rfl; apply w_eql; rfl; rfl; apply w_pickTb; rfl; rfl; apply w_done0; refine w_ifdF rfl (by omega) ?_; apply w_exit)
      exact ⟨rfl, ⟨rfl, rfl, trivial⟩, x :: l, a, c, by rw [← hlead, hlead1], hlt, hl1, hr, rfl⟩
  rintro ρ d' L' ⟨hdd, hsl, D1, a1, c1, hD1, hlt1, hl1, hr1, hL⟩
  subst hdd; subst hL
  refine gwp_slots _ hsl ?_
  clear hv hlt hsl
  refine w_mid (fun ρ d2 L' => d2 = d' ∧ SlotsAre ρ [(1, .pointer (some ⟨b1, 0, none⟩)), (2, .pointer (some ⟨b2, 0, none⟩))] ∧ ∃ (D' : List Nat) (e' : Int) (a : Option Addr) (c : Nat), (D', e') = trail (lead D).length (lead D) e ∧ (∀ n ∈ D', n < 10) ∧ D'.length ≤ D.length ∧ e ≤ e' ∧ e' ≤ e + D.length ∧ RInts d' (.slice a D'.length c) (ints D') ∧ L' = [bx b2 T2 [.int .i64 0, .int .i64 0], bx b1 T1 [.bool neg, .slice a D'.length c, .int .i64 e']]) ?_ ?_
  · apply w_block
    refine w_loopS (α := List Nat × Int) (fun _ => [(1, .pointer (some ⟨b1, 0, none⟩)), (2, .pointer (some ⟨b2, 0, none⟩))])
      (fun x d2 L' => d2 = d' ∧ trail x.1.length x.1 x.2 = trail (lead D).length (lead D) e ∧ (∀ n ∈ x.1, n < 10) ∧ x.1.length ≤ D.length ∧ e ≤ x.2 ∧ x.2 ≤ e + (D.length - x.1.length : Int) ∧ ∃ a c, RInts d' (.slice a x.1.length c) (ints x.1) ∧ L' = [bx b2 T2 [.int .i64 0, .int .i64 0], bx b1 T1 [.bool neg, .slice a x.1.length c, .int .i64 x.2]])
      (fun x => x.1.length) (D1, e) ⟨rfl, rfl, trivial⟩ ⟨rfl, by rw [hD1], hlt1, hl1, Int.le_refl e, by simp only; omega, a1, c1, hr1, rfl⟩ ?_
    clear hr1 hlt1
    rintro ⟨D2, e2⟩ ρ d2 L' ⟨hdd, htr, hlt2, hl2, he3, he4, a, c, hr, hL⟩
    simp only at htr hlt2 hl2 he3 he4 hr hL
    subst hdd; subst hL
    have hil := ints_len D2
    by_cases hgo : D2.getLast? = some 0
    · have hne : D2 ≠ [] := by intro h; subst h; simp at hgo
      have hpos : 0 < D2.length := List.length_pos_iff.2 hne
      have hlast : D2[D2.length - 1]'(by omega) = 0 := by
        rw [List.getLast?_eq_getElem?, List.getElem?_eq_getElem (by omega)] at hgo
        simpa using hgo
      have h0 : (ints D2)[D2.length - 1]'(by omega) = 0 := by rw [ints_at, hlast]; rfl
      (apply w_sq; apply w_sq; apply w_reg; apply w_fld; rfl; apply w_ld; rfl; exact hc_i 1 rfl rfl; apply w_len; rfl; apply w_gtr; rfl; rfl; apply w_mvb; rfl; refine w_gdT rfl (by omega) ?_; apply w_gT; rfl; apply w_fld; rfl; apply w_gT; rfl; apply w_ld; rfl; exact hc_i 1 rfl rfl; apply w_gT; rfl; apply w_fld; rfl; apply w_gT; rfl; apply w_ld; rfl; exact hc_i 1 rfl rfl; apply w_gT; rfl; apply w_len; rfl; apply w_gT; rfl; apply w_sub; rfl; rfl; omega; omega; apply w_gT; rfl)
      refine w_idxR (sz := 1) (R := RInt) (m := D2.length - 1) (by rfl) hr (by rfl) (by omega) (by omega) ?_; rintro _ _ _ _ _ ⟨rfl, _, _⟩
      (apply w_gT; rfl; apply w_ld; rfl; exact hc_ds0 (by assumption) rfl; apply w_gT; rfl; apply w_eql; rfl; rfl; apply w_pickTb; rfl; rfl; apply w_done0; refine w_ifdT rfl (by omega) ?_; apply w_skip; apply w_block; apply w_sq; apply w_reg; apply w_fld; rfl; apply w_ld; rfl; exact hc_i 1 rfl rfl; apply w_fld; rfl; apply w_ld; rfl; exact hc_i 1 rfl rfl; apply w_len; rfl; apply w_sub; rfl; rfl; omega; omega)
      refine w_slTo (n := D2.length - 1) rfl hr rfl (by omega) (by omega) (fun v1 hv1 => ?_)
      have e1 : (ints D2).take (D2.length - 1) = ints D2.dropLast := by rw [ints, ints, ← List.map_take, List.dropLast_eq_take]
      rw [e1] at hv1
      obtain ⟨a3, c3, rfl⟩ : ∃ a3 c3, v1 = .slice a3 D2.dropLast.length c3 := by
        obtain ⟨a3, c3, e1⟩ := RSl.val hv1
        exact ⟨a3, c3, by rw [e1, ints_len]⟩
      (apply w_fld; rfl)
      refine w_stE 1 [.bool neg, .slice a3 D2.dropLast.length c3, .int .i64 e2] rfl rfl rfl rfl (Nat.le_of_ble_eq_true rfl) rfl rfl ?_
      (apply w_done0; apply w_reg; apply w_fld; rfl; apply w_ld; rfl; exact hc_i 1 rfl rfl; apply w_add; rfl; rfl; omega; omega; apply w_fld; rfl)
      refine w_stE 1 [.bool neg, .slice a3 D2.dropLast.length c3, .int .i64 (e2 + 1)] rfl rfl rfl rfl (Nat.le_of_ble_eq_true rfl) rfl rfl ?_
      (apply w_done0)
      have hdl : D2.dropLast.length = D2.length - 1 := by simp
      refine ⟨(D2.dropLast, e2 + 1), by simp only; omega, ⟨rfl, rfl, trivial⟩, rfl, ?_, fun n hn => hlt2 n (List.dropLast_subset D2 hn), by simp only; omega, by simp only; omega, by simp only; omega, a3, c3, hv1, rfl⟩
      simp only
      rw [← htr, hdl]
      obtain ⟨f', hf⟩ : ∃ f', D2.length = f' + 1 := ⟨D2.length - 1, by omega⟩
      rw [hf, Nat.add_sub_cancel, trail, if_pos hgo]
    · have hend : (D2, e2) = trail (lead D).length (lead D) e := by
        rw [← htr]
        cases hf : D2.length with
        | zero => rfl
        | succ f' => rw [trail, if_neg hgo]
      by_cases hne : D2.length = 0
      · (apply w_sq; apply w_sq; apply w_reg; apply w_fld; rfl; apply w_ld; rfl; exact hc_i 1 rfl rfl; apply w_len; rfl; apply w_gtr; rfl; rfl; apply w_mvb; rfl; refine w_gdF rfl (by omega) ?_; apply w_gF; rfl; apply w_gF; rfl; apply w_gF; rfl; apply w_gF; rfl; apply w_gF; rfl; apply w_gF; rfl; apply w_gF; rfl; apply w_gF; rfl; apply w_gF; rfl; apply w_pickFb; rfl; rfl; apply w_done0; apply w_ifF; rfl; apply w_exit)
        exact ⟨rfl, ⟨rfl, rfl, trivial⟩, D2, e2, a, c, hend, hlt2, hl2, he3, by omega, hr, rfl⟩
      · have h0 : ¬ (ints D2)[D2.length - 1]'(by omega) = 0 := by
          rw [ints_at]
          intro h
          apply hgo
          rw [List.getLast?_eq_getElem?, List.getElem?_eq_getElem (by omega)]
          congr 1; omega
        (apply w_sq; apply w_sq; apply w_reg; apply w_fld; rfl; apply w_ld; rfl; exact hc_i 1 rfl rfl; apply w_len; rfl; apply w_gtr; rfl; rfl; apply w_mvb; rfl; refine w_gdT rfl (by omega) ?_; apply w_gT; rfl; apply w_fld; rfl; apply w_gT; rfl; apply w_ld; rfl; exact hc_i 1 rfl rfl; apply w_gT; rfl; apply w_fld; rfl; apply w_gT; rfl; apply w_ld; rfl; exact hc_i 1 rfl rfl; apply w_gT; rfl; apply w_len; rfl; apply w_gT; rfl; apply w_sub; rfl; rfl; omega; omega; apply w_gT; rfl)
        refine w_idxR (sz := 1) (R := RInt) (m := D2.length - 1) (by rfl) hr (by rfl) (by omega) (by omega) ?_; rintro _ _ _ _ _ ⟨rfl, _, _⟩
        (apply w_gT; rfl; apply w_ld; rfl; exact hc_ds0 (by assumption) rfl; apply w_gT; rfl; apply w_eql; rfl; rfl; apply w_pickTb; rfl; rfl; apply w_done0; refine w_ifdF rfl (by omega) ?_; apply w_exit)
        exact ⟨rfl, ⟨rfl, rfl, trivial⟩, D2, e2, a, c, hend, hlt2, hl2, he3, by omega, hr, rfl⟩
  rintro ρ d2 L' ⟨hdd, hsl, D2, e2, a2, c2, hend, hlt2, hl2, he3, he4, hr2, hL⟩
  subst hdd; subst hL
  refine gwp_slots _ hsl ?_
  clear hr1 hlt1 hsl
  have hil := ints_len D2
  have hsf : shortF neg D e = if D2 = [] then (0, 0, 0) else if D2.length > 18 ∨ e2 < -64 ∨ e2 > 64 then (0, 0, 11) else (if neg then -(val D2 : Int) else (val D2 : Int), e2, 0) := by
    simp only [shortF, ← hend]
  by_cases h0 : D2.length = 0
  · have hnil := List.eq_nil_of_length_eq_zero h0
    rw [if_pos hnil] at hsf
    rw [hres, hsf]
    (apply w_sq; apply w_sq; apply w_reg; apply w_fld; rfl; apply w_ld; rfl; exact hc_i 1 rfl rfl; apply w_len; rfl; apply w_eql; rfl; rfl; apply w_done0; refine w_ifdT rfl (by omega) ?_; apply w_sq; apply w_reg; apply w_bld; rfl)
    refine w_stE 0 [.int .i64 0, .int .i64 0] rfl rfl rfl rfl (Nat.le_of_ble_eq_true rfl) rfl rfl ?_
    (apply w_mvi; rfl; apply w_done0; apply w_ret)
    exact finS [.agg [.int .i64 0, .int .i64 0].toArray, .int .i64 0] ⟨res_cell 0 rfl rfl rfl, res_tmp rfl, trivial⟩ (List.nil_sublist _) ⟨rfl, rfl⟩
  have hnil : ¬ D2 = [] := by intro h; rw [h] at h0; exact h0 rfl
  rw [if_neg hnil] at hsf
  by_cases hbad : D2.length > 18 ∨ e2 < -64 ∨ e2 > 64
  · rw [if_pos hbad] at hsf
    rw [hres, hsf]
    by_cases hb1 : D2.length > 18
    · (apply w_sq; apply w_sq; apply w_reg; apply w_fld; rfl; apply w_ld; rfl; exact hc_i 1 rfl rfl; apply w_len; rfl; apply w_eql; rfl; rfl; apply w_done0; refine w_ifdF rfl (by omega) ?_; apply w_skip; apply w_sq; apply w_sq; apply w_reg; apply w_fld; rfl; apply w_ld; rfl; exact hc_i 1 rfl rfl; apply w_len; rfl; apply w_gtr; rfl; rfl; apply w_mvb; rfl; refine w_gdT rfl (by omega) ?_; apply w_gF; rfl; apply w_gF; rfl; apply w_gF; rfl; apply w_pickTb; rfl; rfl; apply w_mvb; rfl; apply w_gF; rfl; apply w_gF; rfl; apply w_gF; rfl; apply w_pickTb; rfl; rfl; apply w_done0; apply w_ifT; rfl; apply w_sq; apply w_reg; apply w_bld; rfl)
      refine w_stE 0 [.int .i64 0, .int .i64 0] rfl rfl rfl rfl (Nat.le_of_ble_eq_true rfl) rfl rfl ?_
      (apply w_mvi; rfl; apply w_done0; apply w_ret)
      exact finS [.agg [.int .i64 0, .int .i64 0].toArray, .int .i64 11] ⟨res_cell 0 rfl rfl rfl, res_tmp rfl, trivial⟩ (List.nil_sublist _) ⟨rfl, rfl⟩
    by_cases hb2 : e2 < -64
    · (apply w_sq; apply w_sq; apply w_reg; apply w_fld; rfl; apply w_ld; rfl; exact hc_i 1 rfl rfl; apply w_len; rfl; apply w_eql; rfl; rfl; apply w_done0; refine w_ifdF rfl (by omega) ?_; apply w_skip; apply w_sq; apply w_sq; apply w_reg; apply w_fld; rfl; apply w_ld; rfl; exact hc_i 1 rfl rfl; apply w_len; rfl; apply w_gtr; rfl; rfl; apply w_mvb; rfl; refine w_gdF rfl (by omega) ?_; apply w_gT; rfl; apply w_fld; rfl; apply w_gT; rfl; apply w_ld; rfl; exact hc_i 1 rfl rfl; apply w_gT; rfl; apply w_lss; rfl; rfl; apply w_pickFb; rfl; rfl; apply w_mvb; rfl; refine w_gdT rfl (by omega) ?_; apply w_gF; rfl; apply w_gF; rfl; apply w_gF; rfl; apply w_pickTb; rfl; rfl; apply w_done0; apply w_ifT; rfl; apply w_sq; apply w_reg; apply w_bld; rfl)
      refine w_stE 0 [.int .i64 0, .int .i64 0] rfl rfl rfl rfl (Nat.le_of_ble_eq_true rfl) rfl rfl ?_
      (apply w_mvi; rfl; apply w_done0; apply w_ret)
      exact finS [.agg [.int .i64 0, .int .i64 0].toArray, .int .i64 11] ⟨res_cell 0 rfl rfl rfl, res_tmp rfl, trivial⟩ (List.nil_sublist _) ⟨rfl, rfl⟩
    · have hb3 : e2 > 64 := by omega
      (apply w_sq; apply w_sq; apply w_reg; apply w_fld; rfl; apply w_ld; rfl; exact hc_i 1 rfl rfl; apply w_len; rfl; apply w_eql; rfl; rfl; apply w_done0; refine w_ifdF rfl (by omega) ?_; apply w_skip; apply w_sq; apply w_sq; apply w_reg; apply w_fld; rfl; apply w_ld; rfl; exact hc_i 1 rfl rfl; apply w_len; rfl; apply w_gtr; rfl; rfl; apply w_mvb; rfl; refine w_gdF rfl (by omega) ?_; apply w_gT; rfl; apply w_fld; rfl; apply w_gT; rfl; apply w_ld; rfl; exact hc_i 1 rfl rfl; apply w_gT; rfl; apply w_lss; rfl; rfl; apply w_pickFb; rfl; rfl; apply w_mvb; rfl; refine w_gdF rfl (by omega) ?_; apply w_gT; rfl; apply w_fld; rfl; apply w_gT; rfl; apply w_ld; rfl; exact hc_i 1 rfl rfl; apply w_gT; rfl; apply w_gtr; rfl; rfl; apply w_pickFb; rfl; rfl; apply w_done0; refine w_ifdT rfl (by omega) ?_; apply w_sq; apply w_reg; apply w_bld; rfl)
      refine w_stE 0 [.int .i64 0, .int .i64 0] rfl rfl rfl rfl (Nat.le_of_ble_eq_true rfl) rfl rfl ?_
      (apply w_mvi; rfl; apply w_done0; apply w_ret)
      exact finS [.agg [.int .i64 0, .int .i64 0].toArray, .int .i64 11] ⟨res_cell 0 rfl rfl rfl, res_tmp rfl, trivial⟩ (List.nil_sublist _) ⟨rfl, rfl⟩
  rw [if_neg hbad] at hsf
  have hb1 : ¬ D2.length > 18 := fun h => hbad (.inl h)
  have hb2 : ¬ e2 < -64 := fun h => hbad (.inr (.inl h))
  have hb3 : ¬ e2 > 64 := fun h => hbad (.inr (.inr h))
  have hvl := val_lt D2.length D2 rfl hlt2
  have hvl2 : ∀ i, i ≤ D2.length → val (D2.take i) < 1000000000000000000 := fun i hi => by
    have h1 := val_lt i (D2.take i) (by simp; omega) (fun n hn => hlt2 n (List.mem_of_mem_take hn))
    have h2 : 10 ^ i ≤ 10 ^ 18 := Nat.pow_le_pow_right (by omega) (by omega)
    have h3 : (10 : Nat) ^ 18 = 1000000000000000000 := by decide
    omega
  (apply w_sq; apply w_sq; apply w_reg; apply w_fld; rfl; apply w_ld; rfl; exact hc_i 1 rfl rfl; apply w_len; rfl; apply w_eql; rfl; rfl; apply w_done0; refine w_ifdF rfl (by omega) ?_; apply w_skip; apply w_sq; apply w_sq; apply w_reg; apply w_fld; rfl; apply w_ld; rfl; exact hc_i 1 rfl rfl; apply w_len; rfl; apply w_gtr; rfl; rfl; apply w_mvb; rfl; refine w_gdF rfl (by omega) ?_; apply w_gT; rfl; apply w_fld; rfl; apply w_gT; rfl; apply w_ld; rfl; exact hc_i 1 rfl rfl; apply w_gT; rfl; apply w_lss; rfl; rfl; apply w_pickFb; rfl; rfl; apply w_mvb; rfl; refine w_gdF rfl (by omega) ?_; apply w_gT; rfl; apply w_fld; rfl; apply w_gT; rfl; apply w_ld; rfl; exact hc_i 1 rfl rfl; apply w_gT; rfl; apply w_gtr; rfl; rfl; apply w_pickFb; rfl; rfl; apply w_done0; refine w_ifdF rfl (by omega) ?_; apply w_skip; apply w_sq; apply w_reg; apply w_mvi; rfl; apply w_done0; apply w_sq; apply w_sq; apply w_reg; apply w_mvi; rfl; apply w_done0; apply w_block)
  refine w_loopN (α := Nat) (fun i => [(1, .pointer (some ⟨b1, 0, none⟩)), (2, .pointer (some ⟨b2, 0, none⟩)), (4, .int .i64 (val (D2.take i) : Nat)), (5, .int .i64 i)]) (fun _ => [bx b2 T2 [.int .i64 0, .int .i64 0], bx b1 T1 [.bool neg, .slice a2 D2.length c2, .int .i64 e2]])
    (fun i => i ≤ D2.length) (fun i => D2.length - i) 0 ⟨rfl, rfl, rfl, rfl, trivial⟩ rfl (Nat.zero_le _) ?_
  intro i ρ hi
  have hvi := hvl2 i hi
  by_cases hc : i < D2.length
  · have hvi3 : val (D2.take i) < 100000000000000000 := by
      have h1 := val_lt i (D2.take i) (by simp; omega) (fun n hn => hlt2 n (List.mem_of_mem_take hn))
      have h2 : 10 ^ i ≤ 10 ^ 17 := Nat.pow_le_pow_right (by omega) (by omega)
      have h3 : (10 : Nat) ^ 17 = 100000000000000000 := by decide
      omega
    have hdig : (ints D2)[i]'(by omega) = ((D2[i] : Nat) : Int) := ints_at D2 (by omega)
    have hd10 := hlt2 _ (List.getElem_mem hc)
    have hd10' : 0 ≤ (ints D2)[i]'(by omega) ∧ (ints D2)[i]'(by omega) ≤ 9 := by rw [hdig]; omega
    (apply w_sq; apply w_sq; apply w_reg; apply w_mvi; rfl; apply w_fld; rfl; apply w_ld; rfl; exact hc_i 1 rfl rfl; apply w_len; rfl; apply w_lss; rfl; rfl; apply w_done0; refine w_ifdT rfl (by omega) ?_; apply w_skip; apply w_sq; apply w_block; apply w_reg; apply w_mvi; rfl; apply w_mul; rfl; rfl; omega; omega; apply w_fld; rfl; apply w_ld; rfl; exact hc_i 1 rfl rfl; apply w_mvi; rfl; refine w_idxR (sz := 1) (R := RInt) (by rfl) (by assumption) (by rfl) rfl (by omega) ?_; rintro _ _ _ _ _ ⟨rfl, _, _⟩; apply w_ld; rfl; exact hc_ds0 (by assumption) rfl; apply w_add; rfl; rfl; omega; omega; apply w_mvi; rfl; apply w_done0; apply w_reg; apply w_mvi; rfl; apply w_add; rfl; rfl; omega; omega; apply w_mvi; rfl; apply w_done0)
    refine ⟨i + 1, by omega, ⟨rfl, rfl, int_eq ?_, int_eq (by omega), trivial⟩, rfl, rfl, hc⟩
    rw [List.take_succ_eq_append_getElem hc, val_snoc, hdig]; omega
  · obtain rfl : i = D2.length := by omega
    rw [List.take_length] at hvi ⊢
    cases neg with
    | true =>
      simp only [if_true] at hsf
      rw [hres, hsf]
      (apply w_sq; apply w_sq; apply w_reg; apply w_mvi; rfl; apply w_fld; rfl; apply w_ld; rfl; exact hc_i 1 rfl rfl; apply w_len; rfl; apply w_lss; rfl; rfl; apply w_done0; refine w_ifdF rfl (by omega) ?_; apply w_exit; apply w_sq; apply w_sq; apply w_reg; apply w_fld; rfl; apply w_ld; rfl; exact hc_i 1 rfl rfl; apply w_done0; apply w_ifT; rfl; apply w_reg; apply w_mvi; rfl; apply w_neg; rfl; omega; omega; apply w_mvi; rfl; apply w_done0; apply w_sq; apply w_reg; apply w_mvi; rfl; apply w_fld; rfl; apply w_ld; rfl; exact hc_i 1 rfl rfl; apply w_bld; rfl)
      refine w_stE 0 [.int .i64 (-(val D2 : Int)), .int .i64 e2] rfl rfl rfl rfl (Nat.le_of_ble_eq_true rfl) rfl rfl ?_
      (apply w_mvi; rfl; apply w_done0; apply w_ret)
      exact finS [.agg [.int .i64 (-(val D2 : Int)), .int .i64 e2].toArray, .int .i64 0] ⟨res_cell 0 rfl rfl rfl, res_tmp rfl, trivial⟩ (List.nil_sublist _) ⟨rfl, rfl⟩
    | false =>
      simp only [Bool.false_eq_true, if_false] at hsf
      rw [hres, hsf]
      (apply w_sq; apply w_sq; apply w_reg; apply w_mvi; rfl; apply w_fld; rfl; apply w_ld; rfl; exact hc_i 1 rfl rfl; apply w_len; rfl; apply w_lss; rfl; rfl; apply w_done0; refine w_ifdF rfl (by omega) ?_; apply w_exit; apply w_sq; apply w_sq; apply w_reg; apply w_fld; rfl; apply w_ld; rfl; exact hc_i 1 rfl rfl; apply w_done0; apply w_ifF; rfl; apply w_skip; apply w_sq; apply w_reg; apply w_mvi; rfl; apply w_fld; rfl; apply w_ld; rfl; exact hc_i 1 rfl rfl; apply w_bld; rfl)
      refine w_stE 0 [.int .i64 (val D2 : Int), .int .i64 e2] rfl rfl rfl rfl (Nat.le_of_ble_eq_true rfl) rfl rfl ?_
      (apply w_mvi; rfl; apply w_done0; apply w_ret)
      exact finS [.agg [.int .i64 (val D2 : Int), .int .i64 e2].toArray, .int .i64 0] ⟨res_cell 0 rfl rfl rfl, res_tmp rfl, trivial⟩ (List.nil_sublist _) ⟨rfl, rfl⟩

def g_thimbleref01_Right (f_thimbleref01_long f_thimbleref01_short : Nat) : GFun :=
 ⟨26, [(.tmp 2)],
 (.seq
 (.reg false (.op false ⟨(some 1), none, (.box (.tmp 0))⟩
  (.op false ⟨(some 2), none, (.mv (.const (.bool false)))⟩ .done)))
 (.seq (.seq
 (.reg false (.op false ⟨(some 5), none, (.fld 1 (.tmp 1))⟩
  (.op false ⟨(some 6), none, (.ld none (.tmp 5))⟩
  (.op false ⟨(some 7), none, (.bin .lss (.tmp 6) (.const (.int .i64 (-64))))⟩
  (.op false ⟨(some 8), none, (.mv (.tmp 7))⟩
  (.op false ⟨(some 9), (some (8, false)), (.fld 1 (.tmp 1))⟩
  (.op false ⟨(some 10), (some (8, false)), (.ld none (.tmp 9))⟩
  (.op false ⟨(some 11), (some (8, false)), (.bin .gtr (.tmp 10) (.const (.int .i64 64)))⟩
  (.op false ⟨(some 12), none, (.pick (.tmp 8) (.const (.bool true)) (.tmp 11))⟩ .done))))))))) (.cond (.tmp 12)
 (.seq
 (.reg false (.op false ⟨(some 2), none, (.mv (.const (.bool false)))⟩ .done)) .ret) .skip))
 (.seq
 (.reg false (.op false ⟨(some 14), none, (.ld (some 2) (.tmp 1))⟩
  (.op false ⟨(some 15), none, (.call f_thimbleref01_long [(.tmp 14)])⟩
  (.op false ⟨(some 16), none, (.call f_thimbleref01_short [(.tmp 15)])⟩
  (.op false ⟨(some 13), none, (.mv (.tmp 16))⟩
  (.op false ⟨(some 17), none, (.ext (.tmp 13) 0)⟩
  (.op false ⟨(some 18), none, (.ext (.tmp 13) 1)⟩
  (.op false ⟨(some 3), none, (.alo (.agg #[(.int .i64 0), (.int .i64 0)]))⟩
  (.op false ⟨none, none, (.st 2 (.tmp 3) (.tmp 17))⟩
  (.op false ⟨(some 4), none, (.mv (.tmp 18))⟩ .done))))))))))
 (.seq
 (.reg false (.op false ⟨(some 19), none, (.mv (.tmp 4))⟩
  (.op false ⟨(some 20), none, (.bin .eql (.tmp 19) (.const (.int .i64 0)))⟩
  (.op false ⟨(some 21), none, (.mv (.tmp 20))⟩
  (.op false ⟨(some 22), (some (21, true)), (.ld (some 2) (.tmp 3))⟩
  (.op false ⟨(some 23), (some (21, true)), (.ld (some 2) (.tmp 1))⟩
  (.op false ⟨(some 24), (some (21, true)), (.eqc false [(0, 0), (0, 1)] (.tmp 22) (.tmp 23))⟩
  (.op false ⟨(some 25), none, (.pick (.tmp 21) (.tmp 24) (.const (.bool false)))⟩
  (.op false ⟨(some 2), none, (.mv (.tmp 25))⟩ .done))))))))) .ret))))⟩

set_option maxHeartbeats 1000000 in
theorem rnum_ok {T : PHeap → Prop} {P : Program} {f f1 f2 : FuncId} (hd : dec P f = some (g_thimbleref01_Right f1 f2)) (h1 : LongOk P f1) (h2 : ShortOk P f2) : NumOk T P f := by
  intro d m e ht hm he
  refine GPure.of' hd (Nat.le_of_ble_eq_true rfl) ?_
  show gwp P _ _ _ _ _
  apply w_sq; apply w_reg
  refine w_boxa (l := [.int .i64 m, .int .i64 e]) rfl (fun b1 T1 => ?_)
  have hlaw := fun h1 h2 => short_right m e h1 h2
  by_cases h3 : e < -64
  · (apply w_mvb; rfl; apply w_done0; apply w_sq; apply w_sq; apply w_reg; apply w_fld; rfl; apply w_ld; rfl; exact hc_i 0 rfl rfl; apply w_lss; rfl; rfl; apply w_mvb; rfl; refine w_gdT rfl (by omega) ?_; apply w_gF; rfl; apply w_gF; rfl; apply w_gF; rfl; apply w_pickTb; rfl; rfl; apply w_done0; apply w_ifT; rfl; apply w_sq; apply w_reg; apply w_mvb; rfl; apply w_done0; apply w_ret)
    apply finQb; rfl
    rw [numRight]
    split
    · rw [eq_comm]; exact decide_eq_false (by omega)
    · rw [eq_comm]; exact decide_eq_false (by omega)
  by_cases h4 : e > 64
  · (apply w_mvb; rfl; apply w_done0; apply w_sq; apply w_sq; apply w_reg; apply w_fld; rfl; apply w_ld; rfl; exact hc_i 0 rfl rfl; apply w_lss; rfl; rfl; apply w_mvb; rfl; refine w_gdF rfl (by omega) ?_; apply w_gT; rfl; apply w_fld; rfl; apply w_gT; rfl; apply w_ld; rfl; exact hc_i 0 rfl rfl; apply w_gT; rfl; apply w_gtr; rfl; rfl; apply w_pickFb; rfl; rfl; apply w_done0; refine w_ifdT rfl (by omega) ?_; apply w_sq; apply w_reg; apply w_mvb; rfl; apply w_done0; apply w_ret)
    apply finQb; rfl
    rw [numRight]
    split
    · rw [eq_comm]; exact decide_eq_false (by omega)
    · rw [eq_comm]; exact decide_eq_false (by omega)
  have hlaw := hlaw (by omega) (by omega)
  have hI := hm
  obtain ⟨hm1, hm2⟩ := hm
  have h19 := (digN_len m.natAbs 19).2 (by have : (10 : Nat) ^ 19 = 10000000000000000000 := by decide
                                           omega)
  (apply w_mvb; rfl; apply w_done0; apply w_sq; apply w_sq; apply w_reg; apply w_fld; rfl; apply w_ld; rfl; exact hc_i 0 rfl rfl; apply w_lss; rfl; rfl; apply w_mvb; rfl; refine w_gdF rfl (by omega) ?_; apply w_gT; rfl; apply w_fld; rfl; apply w_gT; rfl; apply w_ld; rfl; exact hc_i 0 rfl rfl; apply w_gT; rfl; apply w_gtr; rfl; rfl; apply w_pickFb; rfl; rfl; apply w_done0; refine w_ifdF rfl (by omega) ?_; apply w_skip; apply w_sq; apply w_reg; apply w_ldb 0; rfl; rfl; rfl)
  refine w_call0 rfl (h1 hI he) (fun r d1 L1 hl1 ⟨hL, dv, hr, hdv⟩ => ?_)
  subst hr; subst hL
  refine w_pure rfl (h2 hdv (digN_lt _) (by omega) (by omega) (by omega)) ?_
  generalize shortF (decide (m < 0)) (digN m.natAbs) e = p at hlaw
  obtain ⟨m', e', er⟩ := p
  simp only at hlaw
  (apply w_mvu; rfl; apply w_ext; rfl; rfl; apply w_ext; rfl; rfl; apply w_alo; intro _ _)
  rename_i b3 T3
  refine w_stE 0 [.int .i64 m', .int .i64 e'] rfl rfl rfl rfl (Nat.le_of_ble_eq_true rfl) rfl rfl ?_
  by_cases h5 : er = 0
  · subst h5
    (apply w_mvi; rfl; apply w_done0; apply w_sq; apply w_reg; apply w_mvi; rfl; apply w_eql; rfl; rfl; apply w_mvb; rfl; refine w_gdT rfl (by with_reducible rfl) ?_; apply w_gT; rfl; apply w_ldb 0; rfl; rfl; rfl; apply w_gT; rfl; apply w_ldb 1; rfl; rfl; rfl; apply w_gT; rfl; apply w_eqc2; rfl; rfl; apply w_pickTb; rfl; rfl; apply w_mvb; rfl; apply w_done0; apply w_ret)
    apply finQb; rfl
    rw [numRight, Bool.eq_iff_iff]
    simp only [true_and] at hlaw
    simp only [Bool.false_xor, Bool.and_eq_true, decide_eq_true_eq]
    rw [hlaw]
    split <;> simp
  · (apply w_mvi; rfl; apply w_done0; apply w_sq; apply w_reg; apply w_mvi; rfl; apply w_eql; rfl; rfl; apply w_mvb; rfl; refine w_gdF rfl (by omega) ?_; apply w_gF; rfl; apply w_gF; rfl; apply w_gF; rfl; apply w_pickFb; rfl; rfl; apply w_mvb; rfl; apply w_done0; apply w_ret)
    apply finQb; rfl
    rw [numRight, Bool.eq_iff_iff]
    simp only [h5, false_and, false_iff] at hlaw
    split at hlaw <;> rename_i h6
    · simp [h6]; exact hlaw
    · simp only [if_neg h6, Bool.false_eq_true, false_iff, decide_eq_true_eq]; exact hlaw
end Go.Gk.Val
end

section
namespace Go.Gk.Val
open Go Go.Gk
attribute [local irreducible] gwp gws

def klens : List (List UInt8) → Nat
  | [] => 0
  | k :: l => 1 + k.length + klens l
theorem klens_snoc (l : List (List UInt8)) (k : List UInt8) : klens (l ++ [k]) = klens l + 1 + k.length := by
  induction l with
  | nil => simp [klens]
  | cons a l ih => simp only [List.cons_append, klens, ih]; omega
mutual
def bulkV : V → Nat
  | .mk _ _ _ t l ks => 1 + t.length + klens ks + bulks l
def bulks : List V → Nat
  | [] => 0
  | x :: l => bulkV x + bulks l
end
theorem bulks_snoc (l : List V) (x : V) : bulks (l ++ [x]) = bulks l + bulkV x := by
  induction l with
  | nil => simp [bulks]
  | cons a l ih => simp only [List.cons_append, bulks, ih]; omega
theorem bulkV_eq (v : V) : bulkV v = 1 + v.text.length + klens v.keys + bulks v.list := by obtain ⟨k, m, e, t, l, ks⟩ := v; rfl
theorem bulks_mem {x : V} : ∀ {l : List V}, x ∈ l → bulkV x ≤ bulks l
  | y :: l, h => by
    rcases List.mem_cons.1 h with rfl | h
    · simp only [bulks]; omega
    · have := bulks_mem h; simp only [bulks]; omega
theorem depth_bulk (v : V) : depthV v ≤ bulkV v := by
  induction v using V.ind with
  | h v ih =>
    have h1 := bulkV_eq v
    obtain ⟨n, hn⟩ : ∃ n, bulkV v = n + 1 := ⟨bulkV v - 1, by omega⟩
    rw [hn, depth_le]
    intro x hx
    have := bulks_mem hx
    have := ih x hx
    omega
theorem depth_mem {v x : V} (h : x ∈ v.list) : depthV x + 1 ≤ depthV v := by
  obtain ⟨n, hn⟩ : ∃ n, depthV v = n + 1 := ⟨depthV v - 1, by have := depth_pos v; omega⟩
  have := (depth_le (v := v) (n := n)).1 (by omega) x h
  omega
def BulkOk (P : Program) (f : FuncId) : Prop := ∀ (v : V) {d : PHeap} {cs : List Value} {most : Nat}, RVal d cs v → most ≤ 1000000 →
  GCall P f [.agg cs.toArray, .int .i64 most] d [] (Ret fun r d' L' => d' = d ∧ ∃ z : Int, r = .int .i64 z ∧ 0 ≤ z ∧ z ≤ most + 140737488355329 ∧ (z ≤ most → z = bulkV v) ∧ L' = [])
def g_thimbleref03_Bulk (f_thimbleref03_Bulk : Nat) : GFun :=
 ⟨64, [(.tmp 4)],
 (.seq
 (.reg false (.op false ⟨(some 2), none, (.box (.tmp 0))⟩
  (.op false ⟨(some 4), none, (.mv (.const (.int .i64 0)))⟩ .done)))
 (.seq
 (.reg false (.op false ⟨(some 8), none, (.fld 3 (.tmp 2))⟩
  (.op false ⟨(some 9), none, (.ld none (.tmp 8))⟩
  (.op false ⟨(some 10), none, (.lens (.tmp 9))⟩
  (.op false ⟨(some 11), none, (.bin .add (.const (.int .i64 1)) (.tmp 10))⟩
  (.op false ⟨(some 5), none, (.mv (.tmp 11))⟩ .done))))))
 (.seq (.seq
 (.reg false (.op false ⟨(some 12), none, (.fld 5 (.tmp 2))⟩
  (.op false ⟨(some 13), none, (.ld none (.tmp 12))⟩
  (.op false ⟨(some 14), none, (.len (.tmp 13))⟩
  (.op false ⟨(some 15), none, (.mv (.tmp 1))⟩
  (.op false ⟨(some 16), none, (.bin .gtr (.tmp 14) (.tmp 15))⟩ .done)))))) (.cond (.tmp 16)
 (.seq
 (.reg false (.op false ⟨(some 17), none, (.mv (.tmp 1))⟩
  (.op false ⟨(some 18), none, (.bin .add (.tmp 17) (.const (.int .i64 1)))⟩
  (.op false ⟨(some 4), none, (.mv (.tmp 18))⟩ .done)))) .ret) .skip))
 (.seq (.seq
 (.reg false (.op false ⟨(some 6), none, (.mv (.const (.int .i64 0)))⟩ .done)) (.block 0 (.loop
 (.seq (.seq
 (.reg false (.op false ⟨(some 19), none, (.mv (.tmp 6))⟩
  (.op false ⟨(some 20), none, (.fld 5 (.tmp 2))⟩
  (.op false ⟨(some 21), none, (.ld none (.tmp 20))⟩
  (.op false ⟨(some 22), none, (.len (.tmp 21))⟩
  (.op false ⟨(some 23), none, (.bin .lss (.tmp 19) (.tmp 22))⟩
  (.op false ⟨(some 24), none, (.mv (.tmp 23))⟩
  (.op false ⟨(some 25), (some (24, true)), (.mv (.tmp 5))⟩
  (.op false ⟨(some 26), (some (24, true)), (.mv (.tmp 1))⟩
  (.op false ⟨(some 27), (some (24, true)), (.bin .leq (.tmp 25) (.tmp 26))⟩
  (.op false ⟨(some 28), none, (.pick (.tmp 24) (.tmp 27) (.const (.bool false)))⟩ .done))))))))))) (.cond (.tmp 28) .skip (.exit 0)))
 (.seq (.block 1
 (.reg false (.op false ⟨(some 31), none, (.mv (.tmp 5))⟩
  (.op false ⟨(some 32), none, (.bin .add (.tmp 31) (.const (.int .i64 1)))⟩
  (.op false ⟨(some 33), none, (.fld 5 (.tmp 2))⟩
  (.op false ⟨(some 34), none, (.ld none (.tmp 33))⟩
  (.op false ⟨(some 35), none, (.mv (.tmp 6))⟩
  (.op false ⟨(some 36), none, (.idx 1 (.tmp 34) (.tmp 35))⟩
  (.op false ⟨(some 37), none, (.ld none (.tmp 36))⟩
  (.op false ⟨(some 38), none, (.lens (.tmp 37))⟩
  (.op false ⟨(some 39), none, (.bin .add (.tmp 32) (.tmp 38))⟩
  (.op false ⟨(some 5), none, (.mv (.tmp 39))⟩ .done))))))))))))
 (.reg false (.op false ⟨(some 29), none, (.mv (.tmp 6))⟩
  (.op false ⟨(some 30), none, (.bin .add (.tmp 29) (.const (.int .i64 1)))⟩
  (.op false ⟨(some 6), none, (.mv (.tmp 30))⟩ .done)))))))))
 (.seq (.seq
 (.reg false (.op false ⟨(some 7), none, (.mv (.const (.int .i64 0)))⟩ .done)) (.block 2 (.loop
 (.seq (.seq
 (.reg false (.op false ⟨(some 40), none, (.mv (.tmp 7))⟩
  (.op false ⟨(some 41), none, (.fld 4 (.tmp 2))⟩
  (.op false ⟨(some 42), none, (.ld none (.tmp 41))⟩
  (.op false ⟨(some 43), none, (.len (.tmp 42))⟩
  (.op false ⟨(some 44), none, (.bin .lss (.tmp 40) (.tmp 43))⟩
  (.op false ⟨(some 45), none, (.mv (.tmp 44))⟩
  (.op false ⟨(some 46), (some (45, true)), (.mv (.tmp 5))⟩
  (.op false ⟨(some 47), (some (45, true)), (.mv (.tmp 1))⟩
  (.op false ⟨(some 48), (some (45, true)), (.bin .leq (.tmp 46) (.tmp 47))⟩
  (.op false ⟨(some 49), none, (.pick (.tmp 45) (.tmp 48) (.const (.bool false)))⟩ .done))))))))))) (.cond (.tmp 49) .skip (.exit 2)))
 (.seq (.block 3
 (.reg false (.op false ⟨(some 52), none, (.mv (.tmp 5))⟩
  (.op false ⟨(some 53), none, (.fld 4 (.tmp 2))⟩
  (.op false ⟨(some 54), none, (.ld none (.tmp 53))⟩
  (.op false ⟨(some 55), none, (.mv (.tmp 7))⟩
  (.op false ⟨(some 56), none, (.idx 6 (.tmp 54) (.tmp 55))⟩
  (.op false ⟨(some 57), none, (.ld (some 6) (.tmp 56))⟩
  (.op false ⟨(some 58), none, (.mv (.tmp 1))⟩
  (.op false ⟨(some 59), none, (.mv (.tmp 5))⟩
  (.op false ⟨(some 60), none, (.bin .sub (.tmp 58) (.tmp 59))⟩
  (.op false ⟨(some 61), none, (.call f_thimbleref03_Bulk [(.tmp 57), (.tmp 60)])⟩
  (.op false ⟨(some 62), none, (.bin .add (.tmp 52) (.tmp 61))⟩
  (.op false ⟨(some 5), none, (.mv (.tmp 62))⟩ .done))))))))))))))
 (.reg false (.op false ⟨(some 50), none, (.mv (.tmp 7))⟩
  (.op false ⟨(some 51), none, (.bin .add (.tmp 50) (.const (.int .i64 1)))⟩
  (.op false ⟨(some 7), none, (.mv (.tmp 51))⟩ .done)))))))))
 (.seq
 (.reg false (.op false ⟨(some 63), none, (.mv (.tmp 5))⟩
  (.op false ⟨(some 4), none, (.mv (.tmp 63))⟩ .done))) .ret))))))⟩

theorem bulk_ok {P : Program} {f : FuncId} (hd : dec P f = some (g_thimbleref03_Bulk f)) : BulkOk P f := by
  intro v
  induction v using V.ind with
  | h v ih =>
  intro d cs most hv hm
  refine GCall.forget (Q := fun r L' => ∃ z : Int, r = .int .i64 z ∧ 0 ≤ z ∧ z ≤ most + 140737488355329 ∧ (z ≤ most → z = bulkV v) ∧ L' = []) ?_
  refine GCall_of hd (Nat.le_of_ble_eq_true rfl) ?_
  have hb := bulkV_eq v
  obtain ⟨lv, kv, rfl, ik, im, ie, it, hl, hks⟩ := hv.open
  obtain ⟨la, lc, rfl⟩ := RSl.val hl
  obtain ⟨ka, kc, rfl⟩ := RSl.val hks
  have hll := RSl.len_le hl
  have hkl := RSl.len_le hks
  have hks' : RSl 1 RStr d (.slice ka v.keys.length kc) v.keys := hks
  have hl' : RSl 6 RVal d (.slice la v.list.length lc) v.list := hl
  show gwp P _ _ _ _ _
  apply w_sq; apply w_reg
  refine w_boxa (l := [.int .i64 v.kind, .int .i64 v.m, .int .i64 v.e, strV v.text, .slice la v.list.length lc, .slice ka v.keys.length kc]) rfl (fun b2 T2 => ?_)
  by_cases hk0 : v.keys.length > most
  · (apply w_mvi; rfl; apply w_done0; apply w_sq; apply w_reg; apply w_fld; rfl; apply w_ld; rfl; exact hc_i 0 rfl rfl; apply w_lens; rfl; apply w_add; rfl; rfl; omega; omega; apply w_mvi; rfl; apply w_done0; apply w_sq; apply w_sq; apply w_reg; apply w_fld; rfl; apply w_ld; rfl; exact hc_i 0 rfl rfl; apply w_len; rfl; apply w_mvi; rfl; apply w_gtr; rfl; rfl; apply w_done0; refine w_ifdT rfl (by omega) ?_; apply w_sq; apply w_reg; apply w_mvi; rfl; apply w_add; rfl; rfl; omega; omega; apply w_mvi; rfl; apply w_done0; apply w_ret)
    exact fin1n rfl ⟨_, rfl, by omega, by omega, by omega, rfl⟩
  (apply w_mvi; rfl; apply w_done0; apply w_sq; apply w_reg; apply w_fld; rfl; apply w_ld; rfl; exact hc_i 0 rfl rfl; apply w_lens; rfl; apply w_add; rfl; rfl; omega; omega; apply w_mvi; rfl; apply w_done0; apply w_sq; apply w_sq; apply w_reg; apply w_fld; rfl; apply w_ld; rfl; exact hc_i 0 rfl rfl; apply w_len; rfl; apply w_mvi; rfl; apply w_gtr; rfl; rfl; apply w_done0; refine w_ifdF rfl (by omega) ?_)
  apply w_skip
  refine w_mid (fun ρ d' L' => d' = d ∧ ∃ z : Int, SlotsAre ρ [(1, .int .i64 most), (2, .pointer (some ⟨b2, 0, none⟩)), (5, .int .i64 z)] ∧ 0 ≤ z ∧ z ≤ most + 140737488355329 ∧ (z ≤ most → z = 1 + v.text.length + klens v.keys) ∧ L' = [bx b2 T2 [.int .i64 v.kind, .int .i64 v.m, .int .i64 v.e, strV v.text, .slice la v.list.length lc, .slice ka v.keys.length kc]]) ?_ ?_
  · (apply w_sq; apply w_reg; apply w_mvi; rfl; apply w_done0; apply w_block)
    refine w_loopS (α := Nat × Int) (fun x => [(1, .int .i64 most), (2, .pointer (some ⟨b2, 0, none⟩)), (5, .int .i64 x.2), (6, .int .i64 x.1)])
      (fun x d' L' => d' = d ∧ x.1 ≤ v.keys.length ∧ 0 ≤ x.2 ∧ x.2 ≤ most + 140737488355329 ∧ x.2 = 1 + v.text.length + klens (v.keys.take x.1) ∧ L' = [bx b2 T2 [.int .i64 v.kind, .int .i64 v.m, .int .i64 v.e, strV v.text, .slice la v.list.length lc, .slice ka v.keys.length kc]])
      (fun x => v.keys.length - x.1) (0, 1 + v.text.length) ⟨rfl, rfl, int_eq (by simp), rfl, trivial⟩ ⟨rfl, Nat.zero_le _, by simp only; omega, by simp only; omega, by simp [klens], rfl⟩ ?_
    rintro ⟨i, z⟩ ρ d' L' ⟨hdd, hi, hz1, hz2, hz3, hL⟩
    simp only at hi hz1 hz2 hz3
    subst hdd; subst hL
    by_cases hc : i < v.keys.length
    · have hki : v.keys[i].length ≤ 140737488355328 := by
        obtain ⟨_, _, _, _, _, _, _, _, _, _, _, h8⟩ := hks'
        obtain ⟨cs, _, _, _, h9⟩ := h8 i hc
        exact h9
      by_cases hc2 : z ≤ most
      · (apply w_sq; apply w_sq; apply w_reg; apply w_mvi; rfl; apply w_fld; rfl; apply w_ld; rfl; exact hc_i 0 rfl rfl; apply w_len; rfl; apply w_lss; rfl; rfl; apply w_mvb; rfl; refine w_gdT rfl (by omega) ?_; apply w_gT; rfl; apply w_mvi; rfl; apply w_gT; rfl; apply w_mvi; rfl; apply w_gT; rfl; apply w_leq; rfl; rfl; apply w_pickTb; rfl; rfl; apply w_done0; refine w_ifdT rfl (by omega) ?_; apply w_skip; apply w_sq; apply w_block; apply w_reg; apply w_mvi; rfl; apply w_add; rfl; rfl; omega; omega; apply w_fld; rfl; apply w_ld; rfl; exact hc_i 0 rfl rfl; apply w_mvi; rfl; refine w_idxR (sz := 1) (R := RStr) (by rfl) (by assumption) (by rfl) rfl (by omega) ?_; rintro _ _ _ _ _ ⟨rfl, _⟩; apply w_ld; rfl; exact hc_ds0 (by assumption) rfl; apply w_lens; rfl; apply w_add; rfl; rfl; omega; omega; apply w_mvi; rfl; apply w_done0; apply w_reg; apply w_mvi; rfl; apply w_add; rfl; rfl; omega; omega; apply w_mvi; rfl; apply w_done0)
        refine ⟨(i + 1, z + 1 + v.keys[i].length), by simp only; omega, ⟨rfl, rfl, rfl, rfl, trivial⟩, rfl, hc, by simp only; omega, by simp only; omega, ?_, rfl⟩
        simp only
        rw [List.take_succ_eq_append_getElem hc, klens_snoc, hz3]
        omega
      · (apply w_sq; apply w_sq; apply w_reg; apply w_mvi; rfl; apply w_fld; rfl; apply w_ld; rfl; exact hc_i 0 rfl rfl; apply w_len; rfl; apply w_lss; rfl; rfl; apply w_mvb; rfl; refine w_gdT rfl (by omega) ?_; apply w_gT; rfl; apply w_mvi; rfl; apply w_gT; rfl; apply w_mvi; rfl; apply w_gT; rfl; apply w_leq; rfl; rfl; apply w_pickTb; rfl; rfl; apply w_done0; refine w_ifdF rfl (by omega) ?_; apply w_exit)
        exact ⟨rfl, z, ⟨rfl, rfl, rfl, trivial⟩, hz1, hz2, fun h => absurd h hc2, rfl⟩
    · obtain rfl : i = v.keys.length := by omega
      rw [List.take_length] at hz3
      (apply w_sq; apply w_sq; apply w_reg; apply w_mvi; rfl; apply w_fld; rfl; apply w_ld; rfl; exact hc_i 0 rfl rfl; apply w_len; rfl; apply w_lss; rfl; rfl; apply w_mvb; rfl; refine w_gdF rfl (by omega) ?_; apply w_gF; rfl; apply w_gF; rfl; apply w_gF; rfl; apply w_pickFb; rfl; rfl; apply w_done0; apply w_ifF; rfl; apply w_exit)
      exact ⟨rfl, z, ⟨rfl, rfl, rfl, trivial⟩, hz1, hz2, fun _ => hz3, rfl⟩
  rintro ρ d' L' ⟨hdd, z0, hsl, hz1, hz2, hz3, hL⟩
  subst hdd; subst hL
  refine gwp_slots _ hsl ?_
  (apply w_sq; apply w_sq; apply w_reg; apply w_mvi; rfl; apply w_done0; apply w_block)
  refine w_loopS (α := Nat × Int) (fun x => [(1, .int .i64 most), (2, .pointer (some ⟨b2, 0, none⟩)), (5, .int .i64 x.2), (7, .int .i64 x.1)])
    (fun x dd L' => dd = d' ∧ x.1 ≤ v.list.length ∧ 0 ≤ x.2 ∧ x.2 ≤ most + 140737488355329 ∧ (x.2 ≤ most → x.2 = 1 + v.text.length + klens v.keys + bulks (v.list.take x.1)) ∧ L' = [bx b2 T2 [.int .i64 v.kind, .int .i64 v.m, .int .i64 v.e, strV v.text, .slice la v.list.length lc, .slice ka v.keys.length kc]])
    (fun x => v.list.length - x.1) (0, z0) ⟨rfl, rfl, rfl, rfl, trivial⟩ ⟨rfl, Nat.zero_le _, hz1, hz2, fun h => by have := hz3 h; simp only at h ⊢; simp [bulks]; omega, rfl⟩ ?_
  clear hz1 hz2 hz3 hsl
  rintro ⟨i, z⟩ ρ d2 L' ⟨hdd, hi, hz1, hz2, hz3, hL⟩
  simp only at hi hz1 hz2 hz3
  subst hdd; subst hL
  by_cases hc : i < v.list.length
  · by_cases hc2 : z ≤ most
    · have hz3 := hz3 hc2
      (apply w_sq; apply w_sq; apply w_reg; apply w_mvi; rfl; apply w_fld; rfl; apply w_ld; rfl; exact hc_i 0 rfl rfl; apply w_len; rfl; apply w_lss; rfl; rfl; apply w_mvb; rfl; refine w_gdT rfl (by omega) ?_; apply w_gT; rfl; apply w_mvi; rfl; apply w_gT; rfl; apply w_mvi; rfl; apply w_gT; rfl; apply w_leq; rfl; rfl; apply w_pickTb; rfl; rfl; apply w_done0; refine w_ifdT rfl (by omega) ?_; apply w_skip; apply w_sq; apply w_block; apply w_reg; apply w_mvi; rfl; apply w_fld; rfl; apply w_ld; rfl; exact hc_i 0 rfl rfl; apply w_mvi; rfl; refine w_idxR (sz := 6) (R := RVal) (by rfl) (by assumption) (by rfl) rfl (by omega) ?_; rintro _ _ _ _ _ _; apply w_ldd; rfl; assumption; assumption; apply w_mvi; rfl; apply w_mvi; rfl; apply w_sub; rfl; rfl; omega; omega)
      rename_i cs hcs hD hR
      have hmz : (most : Int) - z = ((most - z.toNat : Nat) : Int) := by omega
      rw [hmz]
      refine w_call0 rfl (ih _ (List.getElem_mem hc) hR (by omega)) (fun r d3 L3 _ ⟨hdd, y, hr, hy1, hy2, hy3, hL⟩ => ?_)
      subst hdd; subst hr; subst hL
      (apply w_add; rfl; rfl; omega; omega; apply w_mvi; rfl; apply w_done0; apply w_reg; apply w_mvi; rfl; apply w_add; rfl; rfl; omega; omega; apply w_mvi; rfl; apply w_done0)
      refine ⟨(i + 1, z + y), by simp only; omega, ⟨rfl, rfl, rfl, rfl, trivial⟩, rfl, hc, by simp only; omega, by simp only; omega, ?_, rfl⟩
      simp only
      intro h
      rw [List.take_succ_eq_append_getElem hc, bulks_snoc]
      have := hy3 (by omega)
      omega
    · (apply w_sq; apply w_sq; apply w_reg; apply w_mvi; rfl; apply w_fld; rfl; apply w_ld; rfl; exact hc_i 0 rfl rfl; apply w_len; rfl; apply w_lss; rfl; rfl; apply w_mvb; rfl; refine w_gdT rfl (by omega) ?_; apply w_gT; rfl; apply w_mvi; rfl; apply w_gT; rfl; apply w_mvi; rfl; apply w_gT; rfl; apply w_leq; rfl; rfl; apply w_pickTb; rfl; rfl; apply w_done0; refine w_ifdF rfl (by omega) ?_; apply w_exit; apply w_sq; apply w_reg; apply w_mvi; rfl; apply w_mvi; rfl; apply w_done0; apply w_ret)
      exact fin1n rfl ⟨z, rfl, hz1, hz2, fun h => absurd h hc2, rfl⟩
  · obtain rfl : i = v.list.length := by omega
    rw [List.take_length] at hz3
    (apply w_sq; apply w_sq; apply w_reg; apply w_mvi; rfl; apply w_fld; rfl; apply w_ld; rfl; exact hc_i 0 rfl rfl; apply w_len; rfl; apply w_lss; rfl; rfl; apply w_mvb; rfl; refine w_gdF rfl (by omega) ?_; apply w_gF; rfl; apply w_gF; rfl; apply w_gF; rfl; apply w_pickFb; rfl; rfl; apply w_done0; apply w_ifF; rfl; apply w_exit; apply w_sq; apply w_reg; apply w_mvi; rfl; apply w_mvi; rfl; apply w_done0; apply w_ret)
    exact fin1n rfl ⟨z, rfl, hz1, hz2, fun h => by rw [hz3 h, hb]; omega, rfl⟩

def RDepthOk (P : Program) (f : FuncId) : Prop := ∀ (v : V) {d : PHeap} {cs : List Value}, RVal d cs v → depthV v ≤ 1000000000 → GPure P f [.agg cs.toArray] d (.int .i64 (depthV v))
theorem depths_snoc (l : List V) (x : V) : depths (l ++ [x]) = max (depths l) (depthV x) := by
  induction l with
  | nil => simp [depths]
  | cons a l ih => simp only [List.cons_append, depths, ih]; omega
theorem depths_take (l : List V) (i : Nat) : depths (l.take i) ≤ depths l := by
  rw [depths_le]
  intro x hx
  exact (depths_le.1 (Nat.le_refl _)) x (List.mem_of_mem_take hx)
theorem depthV_eq (v : V) : depthV v = depths v.list + 1 := by obtain ⟨k, m, e, t, l, ks⟩ := v; rfl
def g_thimbleref03_Depth (f_thimbleref03_Depth : Nat) : GFun :=
 ⟨25, [(.tmp 2)],
 (.seq
 (.reg false (.op false ⟨(some 1), none, (.box (.tmp 0))⟩
  (.op false ⟨(some 2), none, (.mv (.const (.int .i64 0)))⟩ .done)))
 (.seq
 (.reg false (.op false ⟨(some 3), none, (.mv (.const (.int .i64 0)))⟩ .done))
 (.seq (.seq
 (.reg false (.op false ⟨(some 4), none, (.mv (.const (.int .i64 0)))⟩ .done)) (.block 0 (.loop
 (.seq (.seq
 (.reg false (.op false ⟨(some 6), none, (.mv (.tmp 4))⟩
  (.op false ⟨(some 7), none, (.fld 4 (.tmp 1))⟩
  (.op false ⟨(some 8), none, (.ld none (.tmp 7))⟩
  (.op false ⟨(some 9), none, (.len (.tmp 8))⟩
  (.op false ⟨(some 10), none, (.bin .lss (.tmp 6) (.tmp 9))⟩ .done)))))) (.cond (.tmp 10) .skip (.exit 0)))
 (.seq (.block 1
 (.seq
 (.reg false (.op false ⟨(some 13), none, (.fld 4 (.tmp 1))⟩
  (.op false ⟨(some 14), none, (.ld none (.tmp 13))⟩
  (.op false ⟨(some 15), none, (.mv (.tmp 4))⟩
  (.op false ⟨(some 16), none, (.idx 6 (.tmp 14) (.tmp 15))⟩
  (.op false ⟨(some 17), none, (.ld (some 6) (.tmp 16))⟩
  (.op false ⟨(some 18), none, (.call f_thimbleref03_Depth [(.tmp 17)])⟩
  (.op false ⟨(some 5), none, (.mv (.tmp 18))⟩ .done))))))))
 (.seq
 (.reg false (.op false ⟨(some 19), none, (.mv (.tmp 5))⟩
  (.op false ⟨(some 20), none, (.mv (.tmp 3))⟩
  (.op false ⟨(some 21), none, (.bin .gtr (.tmp 19) (.tmp 20))⟩ .done)))) (.cond (.tmp 21)
 (.reg false (.op false ⟨(some 22), none, (.mv (.tmp 5))⟩
  (.op false ⟨(some 3), none, (.mv (.tmp 22))⟩ .done))) .skip))))
 (.reg false (.op false ⟨(some 11), none, (.mv (.tmp 4))⟩
  (.op false ⟨(some 12), none, (.bin .add (.tmp 11) (.const (.int .i64 1)))⟩
  (.op false ⟨(some 4), none, (.mv (.tmp 12))⟩ .done)))))))))
 (.seq
 (.reg false (.op false ⟨(some 23), none, (.mv (.tmp 3))⟩
  (.op false ⟨(some 24), none, (.bin .add (.const (.int .i64 1)) (.tmp 23))⟩
  (.op false ⟨(some 2), none, (.mv (.tmp 24))⟩ .done)))) .ret))))⟩

theorem rdepth_ok {P : Program} {f : FuncId} (hd : dec P f = some (g_thimbleref03_Depth f)) : RDepthOk P f := by
  intro v
  induction v using V.ind with
  | h v ih =>
  intro d cs hv hb
  refine GPure.of' hd (Nat.le_of_ble_eq_true rfl) ?_
  have he := depthV_eq v
  obtain ⟨lv, kv, rfl, ik, im, ie, it, hl, hks⟩ := hv.open
  obtain ⟨la, lc, rfl⟩ := RSl.val hl
  have hll := RSl.len_le hl
  have hl' : RSl 6 RVal d (.slice la v.list.length lc) v.list := hl
  show gwp P _ _ _ _ _
  apply w_sq; apply w_reg
  refine w_boxa (l := [.int .i64 v.kind, .int .i64 v.m, .int .i64 v.e, strV v.text, .slice la v.list.length lc, kv]) rfl (fun b1 T1 => ?_)
  (apply w_mvi; rfl; apply w_done0; apply w_sq; apply w_reg; apply w_mvi; rfl; apply w_done0; apply w_sq; apply w_sq; apply w_reg; apply w_mvi; rfl; apply w_done0; apply w_block)
  refine w_loopN (α := Nat) (fun i => [(1, .pointer (some ⟨b1, 0, none⟩)), (3, .int .i64 (depths (v.list.take i))), (4, .int .i64 i)]) (fun _ => [bx b1 T1 [.int .i64 v.kind, .int .i64 v.m, .int .i64 v.e, strV v.text, .slice la v.list.length lc, kv]])
    (fun i => i ≤ v.list.length) (fun i => v.list.length - i) 0 ⟨rfl, int_eq (by simp [depths]), rfl, trivial⟩ rfl (Nat.zero_le _) ?_
  intro i ρ hi
  have hti := depths_take v.list i
  by_cases hc : i < v.list.length
  · have hm := depth_mem (List.getElem_mem hc)
    (apply w_sq; apply w_sq; apply w_reg; apply w_mvi; rfl; apply w_fld; rfl; apply w_ld; rfl; exact hc_i 0 rfl rfl; apply w_len; rfl; apply w_lss; rfl; rfl; apply w_done0; refine w_ifdT rfl (by omega) ?_; apply w_skip; apply w_sq; apply w_block; apply w_sq; apply w_reg; apply w_fld; rfl; apply w_ld; rfl; exact hc_i 0 rfl rfl; apply w_mvi; rfl; refine w_idxR (sz := 6) (R := RVal) (by rfl) (by assumption) (by rfl) rfl (by omega) ?_; rintro _ _ _ _ _ _; apply w_ldd; rfl; assumption; assumption)
    rename_i cs hcs hD hR
    refine w_pure rfl (ih _ (List.getElem_mem hc) hR (by omega)) ?_
    have hsn : depths (v.list.take (i + 1)) = max (depths (v.list.take i)) (depthV v.list[i]) := by rw [List.take_succ_eq_append_getElem hc, depths_snoc]
    by_cases hg : depths (v.list.take i) < depthV v.list[i]
    · (apply w_mvi; rfl; apply w_done0; apply w_sq; apply w_reg; apply w_mvi; rfl; apply w_mvi; rfl; apply w_gtr; rfl; rfl; apply w_done0; refine w_ifdT rfl (by omega) ?_; apply w_reg; apply w_mvi; rfl; apply w_mvi; rfl; apply w_done0; apply w_reg; apply w_mvi; rfl; apply w_add; rfl; rfl; omega; omega; apply w_mvi; rfl; apply w_done0)
      exact ⟨i + 1, by omega, ⟨rfl, int_eq (by omega), int_eq (by omega), trivial⟩, rfl, rfl, hc⟩
    · (apply w_mvi; rfl; apply w_done0; apply w_sq; apply w_reg; apply w_mvi; rfl; apply w_mvi; rfl; apply w_gtr; rfl; rfl; apply w_done0; refine w_ifdF rfl (by omega) ?_; apply w_skip; apply w_reg; apply w_mvi; rfl; apply w_add; rfl; rfl; omega; omega; apply w_mvi; rfl; apply w_done0)
      exact ⟨i + 1, by omega, ⟨rfl, int_eq (by omega), int_eq (by omega), trivial⟩, rfl, rfl, hc⟩
  · obtain rfl : i = v.list.length := by omega
    rw [List.take_length] at hti ⊢
    (apply w_sq; apply w_sq; apply w_reg; apply w_mvi; rfl; apply w_fld; rfl; apply w_ld; rfl; exact hc_i 0 rfl rfl; apply w_len; rfl; apply w_lss; rfl; rfl; apply w_done0; refine w_ifdF rfl (by omega) ?_; apply w_exit; apply w_sq; apply w_reg; apply w_mvi; rfl; apply w_add; rfl; rfl; omega; omega; apply w_mvi; rfl; apply w_done0; apply w_ret)
    apply finQi; rfl
    omega

theorem one_k {v : V} (h : v.kind < 0 ∨ 6 < v.kind) : oneB v = false := by
  obtain ⟨k, m, e, t, l, ks⟩ := v
  rw [oneB, bare_k h]; rfl
def ROneOk (T : PHeap → Prop) (P : Program) (f : FuncId) : Prop := ∀ {d : PHeap} {cs : List Value} {v : V}, T d → RVal d cs v → GPure P f [.agg cs.toArray] d (.bool (oneB v))
def g_thimbleref03_one (f_thimbleref02_Right f_thimbleref01_Right : Nat) : GFun :=
 ⟨116, [(.tmp 2)],
 (.seq
 (.reg false (.op false ⟨(some 1), none, (.box (.tmp 0))⟩
  (.op false ⟨(some 2), none, (.mv (.const (.bool false)))⟩ .done)))
 (.seq
 (.reg false (.op false ⟨(some 5), none, (.fld 0 (.tmp 1))⟩
  (.op false ⟨(some 6), none, (.ld none (.tmp 5))⟩
  (.op false ⟨(some 7), none, (.bld [(0, 1), (1, 2), (3, 1), (4, 1), (5, 1)] [(.int .i64 0), (.int .i64 0), (.int .i64 0), (strV []), (.slice none 0 0), (.slice none 0 0)] [(0, (.tmp 6))])⟩
  (.op false ⟨(some 3), none, (.alo (.agg #[(.int .i64 0), (.int .i64 0), (.int .i64 0), (strV []), (.slice none 0 0), (.slice none 0 0)]))⟩
  (.op false ⟨none, none, (.st 6 (.tmp 3) (.tmp 7))⟩ .done))))))
 (.seq (.seq
 (.reg false (.op false ⟨(some 8), none, (.fld 0 (.tmp 1))⟩
  (.op false ⟨(some 9), none, (.ld none (.tmp 8))⟩ .done))) (.block 0
 (.seq (.seq
 (.reg false (.op false ⟨(some 11), none, (.bin .eql (.tmp 9) (.const (.int .i64 0)))⟩
  (.op false ⟨(some 10), none, (.mv (.tmp 11))⟩ .done))) (.cond (.tmp 10) .skip
 (.seq
 (.reg false (.op false ⟨(some 12), none, (.bin .eql (.tmp 9) (.const (.int .i64 1)))⟩
  (.op false ⟨(some 10), none, (.mv (.tmp 12))⟩ .done))) (.cond (.tmp 10) .skip
 (.reg false (.op false ⟨(some 13), none, (.bin .eql (.tmp 9) (.const (.int .i64 2)))⟩
  (.op false ⟨(some 10), none, (.mv (.tmp 13))⟩ .done))))))) (.cond (.tmp 10) .skip
 (.seq
 (.reg false (.op false ⟨(some 15), none, (.bin .eql (.tmp 9) (.const (.int .i64 3)))⟩
  (.op false ⟨(some 14), none, (.mv (.tmp 15))⟩ .done))) (.cond (.tmp 14)
 (.reg false (.op false ⟨(some 16), none, (.fld 1 (.tmp 1))⟩
  (.op false ⟨(some 17), none, (.ld (some 2) (.tmp 16))⟩
  (.op false ⟨(some 18), none, (.fld 1 (.tmp 3))⟩
  (.op false ⟨none, none, (.st 2 (.tmp 18) (.tmp 17))⟩ .done)))))
 (.seq
 (.reg false (.op false ⟨(some 20), none, (.bin .eql (.tmp 9) (.const (.int .i64 4)))⟩
  (.op false ⟨(some 19), none, (.mv (.tmp 20))⟩ .done))) (.cond (.tmp 19)
 (.reg false (.op false ⟨(some 21), none, (.fld 3 (.tmp 1))⟩
  (.op false ⟨(some 22), none, (.ld none (.tmp 21))⟩
  (.op false ⟨(some 23), none, (.fld 3 (.tmp 3))⟩
  (.op false ⟨none, none, (.st 1 (.tmp 23) (.tmp 22))⟩ .done)))))
 (.seq
 (.reg false (.op false ⟨(some 25), none, (.bin .eql (.tmp 9) (.const (.int .i64 5)))⟩
  (.op false ⟨(some 24), none, (.mv (.tmp 25))⟩ .done))) (.cond (.tmp 24)
 (.reg false (.op false ⟨(some 26), none, (.fld 4 (.tmp 1))⟩
  (.op false ⟨(some 27), none, (.ld none (.tmp 26))⟩
  (.op false ⟨(some 28), none, (.fld 4 (.tmp 3))⟩
  (.op false ⟨none, none, (.st 1 (.tmp 28) (.tmp 27))⟩ .done)))))
 (.seq
 (.reg false (.op false ⟨(some 30), none, (.bin .eql (.tmp 9) (.const (.int .i64 6)))⟩
  (.op false ⟨(some 29), none, (.mv (.tmp 30))⟩ .done))) (.cond (.tmp 29)
 (.seq
 (.reg false (.op false ⟨(some 31), none, (.fld 4 (.tmp 1))⟩
  (.op false ⟨(some 32), none, (.ld none (.tmp 31))⟩
  (.op false ⟨(some 33), none, (.fld 4 (.tmp 3))⟩
  (.op false ⟨none, none, (.st 1 (.tmp 33) (.tmp 32))⟩ .done)))))
 (.seq
 (.reg false (.op false ⟨(some 34), none, (.fld 5 (.tmp 1))⟩
  (.op false ⟨(some 35), none, (.ld none (.tmp 34))⟩
  (.op false ⟨(some 36), none, (.fld 5 (.tmp 3))⟩
  (.op false ⟨none, none, (.st 1 (.tmp 36) (.tmp 35))⟩ .done)))))
 (.seq
 (.reg false (.op false ⟨(some 37), none, (.fld 5 (.tmp 1))⟩
  (.op false ⟨(some 38), none, (.ld none (.tmp 37))⟩
  (.op false ⟨(some 39), none, (.len (.tmp 38))⟩
  (.op false ⟨(some 40), none, (.fld 4 (.tmp 1))⟩
  (.op false ⟨(some 41), none, (.ld none (.tmp 40))⟩
  (.op false ⟨(some 42), none, (.len (.tmp 41))⟩
  (.op false ⟨(some 43), none, (.bin .neq (.tmp 39) (.tmp 42))⟩ .done)))))))) (.cond (.tmp 43)
 (.seq
 (.reg false (.op false ⟨(some 2), none, (.mv (.const (.bool false)))⟩ .done)) .ret) .skip))))
 (.seq
 (.reg false (.op false ⟨(some 2), none, (.mv (.const (.bool false)))⟩ .done)) .ret)))))))))))))
 (.seq (.seq
 (.reg false (.op false ⟨(some 4), none, (.mv (.const (.int .i64 0)))⟩ .done)) (.block 1 (.loop
 (.seq (.seq
 (.reg false (.op false ⟨(some 44), none, (.mv (.tmp 4))⟩
  (.op false ⟨(some 45), none, (.fld 5 (.tmp 1))⟩
  (.op false ⟨(some 46), none, (.ld none (.tmp 45))⟩
  (.op false ⟨(some 47), none, (.len (.tmp 46))⟩
  (.op false ⟨(some 48), none, (.bin .lss (.tmp 44) (.tmp 47))⟩ .done)))))) (.cond (.tmp 48) .skip (.exit 1)))
 (.seq (.block 2
 (.seq
 (.reg true (.op true ⟨(some 51), none, (.fld 5 (.tmp 1))⟩
  (.op true ⟨(some 52), none, (.ld none (.tmp 51))⟩
  (.op true ⟨(some 53), none, (.mv (.tmp 4))⟩
  (.op true ⟨(some 54), none, (.idx 1 (.tmp 52) (.tmp 53))⟩
  (.op true ⟨(some 55), none, (.ld none (.tmp 54))⟩
  (.op false ⟨(some 56), none, (.call f_thimbleref02_Right [(.tmp 55)])⟩
  (.op true ⟨(some 57), none, (.un .not (.tmp 56))⟩
  (.op true ⟨(some 58), none, (.mv (.tmp 57))⟩
  (.op true ⟨(some 59), (some (58, false)), (.mv (.tmp 4))⟩
  (.op true ⟨(some 60), (some (58, false)), (.bin .gtr (.tmp 59) (.const (.int .i64 0)))⟩
  (.op true ⟨(some 61), (some (58, false)), (.mv (.tmp 60))⟩
  (.op true ⟨(some 62), (some (61, true)), (.fld 5 (.tmp 1))⟩
  (.op true ⟨(some 63), (some (61, true)), (.ld none (.tmp 62))⟩
  (.op true ⟨(some 64), (some (61, true)), (.mv (.tmp 4))⟩
  (.op true ⟨(some 65), (some (61, true)), (.bin .sub (.tmp 64) (.const (.int .i64 1)))⟩
  (.op true ⟨(some 66), (some (61, true)), (.idx 1 (.tmp 63) (.tmp 65))⟩
  (.op true ⟨(some 67), (some (61, true)), (.ld none (.tmp 66))⟩
  (.op true ⟨(some 68), (some (61, true)), (.fld 5 (.tmp 1))⟩
  (.op true ⟨(some 69), (some (61, true)), (.ld none (.tmp 68))⟩
  (.op true ⟨(some 70), (some (61, true)), (.mv (.tmp 4))⟩
  (.op true ⟨(some 71), (some (61, true)), (.idx 1 (.tmp 69) (.tmp 70))⟩
  (.op true ⟨(some 72), (some (61, true)), (.ld none (.tmp 71))⟩
  (.op true ⟨(some 73), (some (61, true)), (.bin .geq (.tmp 67) (.tmp 72))⟩
  (.op true ⟨(some 74), (some (58, false)), (.pick (.tmp 61) (.tmp 73) (.const (.bool false)))⟩
  (.op true ⟨(some 75), none, (.pick (.tmp 58) (.const (.bool true)) (.tmp 74))⟩ .done)))))))))))))))))))))))))) (.cond (.tmp 75)
 (.seq
 (.reg false (.op false ⟨(some 2), none, (.mv (.const (.bool false)))⟩ .done)) .ret) .skip)))
 (.reg false (.op false ⟨(some 49), none, (.mv (.tmp 4))⟩
  (.op false ⟨(some 50), none, (.bin .add (.tmp 49) (.const (.int .i64 1)))⟩
  (.op false ⟨(some 4), none, (.mv (.tmp 50))⟩ .done)))))))))
 (.seq
 (.reg false (.op false ⟨(some 76), none, (.fld 1 (.tmp 3))⟩
  (.op false ⟨(some 77), none, (.ld (some 2) (.tmp 76))⟩
  (.op false ⟨(some 78), none, (.fld 1 (.tmp 1))⟩
  (.op false ⟨(some 79), none, (.ld (some 2) (.tmp 78))⟩
  (.op false ⟨(some 80), none, (.eqc false [(0, 0), (0, 1)] (.tmp 77) (.tmp 79))⟩
  (.op false ⟨(some 81), none, (.mv (.tmp 80))⟩
  (.op false ⟨(some 82), (some (81, true)), (.fld 3 (.tmp 3))⟩
  (.op false ⟨(some 83), (some (81, true)), (.ld none (.tmp 82))⟩
  (.op false ⟨(some 84), (some (81, true)), (.fld 3 (.tmp 1))⟩
  (.op false ⟨(some 85), (some (81, true)), (.ld none (.tmp 84))⟩
  (.op false ⟨(some 86), (some (81, true)), (.bin .eql (.tmp 83) (.tmp 85))⟩
  (.op false ⟨(some 87), none, (.pick (.tmp 81) (.tmp 86) (.const (.bool false)))⟩
  (.op false ⟨(some 88), none, (.mv (.tmp 87))⟩
  (.op false ⟨(some 89), (some (88, true)), (.fld 4 (.tmp 3))⟩
  (.op false ⟨(some 90), (some (88, true)), (.ld none (.tmp 89))⟩
  (.op false ⟨(some 91), (some (88, true)), (.len (.tmp 90))⟩
  (.op false ⟨(some 92), (some (88, true)), (.fld 4 (.tmp 1))⟩
  (.op false ⟨(some 93), (some (88, true)), (.ld none (.tmp 92))⟩
  (.op false ⟨(some 94), (some (88, true)), (.len (.tmp 93))⟩
  (.op false ⟨(some 95), (some (88, true)), (.bin .eql (.tmp 91) (.tmp 94))⟩
  (.op false ⟨(some 96), none, (.pick (.tmp 88) (.tmp 95) (.const (.bool false)))⟩
  (.op false ⟨(some 97), none, (.mv (.tmp 96))⟩
  (.op false ⟨(some 98), (some (97, true)), (.fld 5 (.tmp 3))⟩
  (.op false ⟨(some 99), (some (97, true)), (.ld none (.tmp 98))⟩
  (.op false ⟨(some 100), (some (97, true)), (.len (.tmp 99))⟩
  (.op false ⟨(some 101), (some (97, true)), (.fld 5 (.tmp 1))⟩
  (.op false ⟨(some 102), (some (97, true)), (.ld none (.tmp 101))⟩
  (.op false ⟨(some 103), (some (97, true)), (.len (.tmp 102))⟩
  (.op false ⟨(some 104), (some (97, true)), (.bin .eql (.tmp 100) (.tmp 103))⟩
  (.op false ⟨(some 105), none, (.pick (.tmp 97) (.tmp 104) (.const (.bool false)))⟩
  (.op false ⟨(some 106), none, (.mv (.tmp 105))⟩
  (.op false ⟨(some 107), (some (106, true)), (.fld 1 (.tmp 1))⟩
  (.op false ⟨(some 108), (some (106, true)), (.ld (some 2) (.tmp 107))⟩
  (.op false ⟨(some 109), (some (106, true)), (.call f_thimbleref01_Right [(.tmp 108)])⟩
  (.op false ⟨(some 110), none, (.pick (.tmp 106) (.tmp 109) (.const (.bool false)))⟩
  (.op false ⟨(some 111), none, (.mv (.tmp 110))⟩
  (.op false ⟨(some 112), (some (111, true)), (.fld 3 (.tmp 1))⟩
  (.op false ⟨(some 113), (some (111, true)), (.ld none (.tmp 112))⟩
  (.op false ⟨(some 114), (some (111, true)), (.call f_thimbleref02_Right [(.tmp 113)])⟩
  (.op false ⟨(some 115), none, (.pick (.tmp 111) (.tmp 114) (.const (.bool false)))⟩
  (.op false ⟨(some 2), none, (.mv (.tmp 115))⟩ .done)))))))))))))))))))))))))))))))))))))))))) .ret)))))⟩

def RAllOk (T : PHeap → Prop) (P : Program) (f : FuncId) : Prop := ∀ (v : V) {d : PHeap} {cs : List Value}, T d → RVal d cs v → GPure P f [.agg cs.toArray] d (.bool (mayV v))
def g_thimbleref03_all (f_thimbleref03_all f_thimbleref03_one : Nat) : GFun :=
 ⟨20, [(.tmp 2)],
 (.seq
 (.reg false (.op false ⟨(some 1), none, (.box (.tmp 0))⟩
  (.op false ⟨(some 2), none, (.mv (.const (.bool false)))⟩ .done)))
 (.seq (.seq
 (.reg false (.op false ⟨(some 3), none, (.mv (.const (.int .i64 0)))⟩ .done)) (.block 0 (.loop
 (.seq (.seq
 (.reg false (.op false ⟨(some 4), none, (.mv (.tmp 3))⟩
  (.op false ⟨(some 5), none, (.fld 4 (.tmp 1))⟩
  (.op false ⟨(some 6), none, (.ld none (.tmp 5))⟩
  (.op false ⟨(some 7), none, (.len (.tmp 6))⟩
  (.op false ⟨(some 8), none, (.bin .lss (.tmp 4) (.tmp 7))⟩ .done)))))) (.cond (.tmp 8) .skip (.exit 0)))
 (.seq (.block 1
 (.seq
 (.reg false (.op false ⟨(some 11), none, (.fld 4 (.tmp 1))⟩
  (.op false ⟨(some 12), none, (.ld none (.tmp 11))⟩
  (.op false ⟨(some 13), none, (.mv (.tmp 3))⟩
  (.op false ⟨(some 14), none, (.idx 6 (.tmp 12) (.tmp 13))⟩
  (.op false ⟨(some 15), none, (.ld (some 6) (.tmp 14))⟩
  (.op false ⟨(some 16), none, (.call f_thimbleref03_all [(.tmp 15)])⟩
  (.op false ⟨(some 17), none, (.un .not (.tmp 16))⟩ .done)))))))) (.cond (.tmp 17)
 (.seq
 (.reg false (.op false ⟨(some 2), none, (.mv (.const (.bool false)))⟩ .done)) .ret) .skip)))
 (.reg false (.op false ⟨(some 9), none, (.mv (.tmp 3))⟩
  (.op false ⟨(some 10), none, (.bin .add (.tmp 9) (.const (.int .i64 1)))⟩
  (.op false ⟨(some 3), none, (.mv (.tmp 10))⟩ .done)))))))))
 (.seq
 (.reg false (.op false ⟨(some 18), none, (.ld (some 6) (.tmp 1))⟩
  (.op false ⟨(some 19), none, (.call f_thimbleref03_one [(.tmp 18)])⟩
  (.op false ⟨(some 2), none, (.mv (.tmp 19))⟩ .done)))) .ret)))⟩

theorem rall_ok {T : PHeap → Prop} {P : Program} {f f1 : FuncId} (hd : dec P f = some (g_thimbleref03_all f f1)) (h1 : ROneOk T P f1) : RAllOk T P f := by
  intro v
  induction v using V.ind with
  | h v ih =>
  intro d cs ht hv
  refine GPure.of' hd (Nat.le_of_ble_eq_true rfl) ?_
  have he := mayV_eq v
  have hv' := hv
  obtain ⟨lv, kv, rfl, ik, im, ie, it, hl, hks⟩ := hv'.open
  obtain ⟨la, lc, rfl⟩ := RSl.val hl
  obtain ⟨ka, kc, rfl⟩ := RSl.val hks
  have hll := RSl.len_le hl
  have hl' : RSl 6 RVal d (.slice la v.list.length lc) v.list := hl
  show gwp P _ _ _ _ _
  apply w_sq; apply w_reg
  refine w_boxa (l := [.int .i64 v.kind, .int .i64 v.m, .int .i64 v.e, strV v.text, .slice la v.list.length lc, .slice ka v.keys.length kc]) rfl (fun b1 T1 => ?_)
  (apply w_mvb; rfl; apply w_done0; apply w_sq; apply w_sq; apply w_reg; apply w_mvi; rfl; apply w_done0; apply w_block)
  refine w_loopN (α := Nat) (fun i => [(1, .pointer (some ⟨b1, 0, none⟩)), (3, .int .i64 i)]) (fun _ => [bx b1 T1 [.int .i64 v.kind, .int .i64 v.m, .int .i64 v.e, strV v.text, .slice la v.list.length lc, .slice ka v.keys.length kc]])
    (fun i => i ≤ v.list.length ∧ (v.list.take i).all mayV = true) (fun i => v.list.length - i) 0 ⟨rfl, rfl, trivial⟩ rfl ⟨Nat.zero_le _, by simp⟩ ?_
  rintro i ρ ⟨hi, hall⟩
  by_cases hc : i < v.list.length
  · (apply w_sq; apply w_sq; apply w_reg; apply w_mvi; rfl; apply w_fld; rfl; apply w_ld; rfl; exact hc_i 0 rfl rfl; apply w_len; rfl; apply w_lss; rfl; rfl; apply w_done0; refine w_ifdT rfl (by omega) ?_; apply w_skip; apply w_sq; apply w_block; apply w_sq; apply w_reg; apply w_fld; rfl; apply w_ld; rfl; exact hc_i 0 rfl rfl; apply w_mvi; rfl; refine w_idxR (sz := 6) (R := RVal) (by rfl) (by assumption) (by rfl) rfl (by omega) ?_; rintro _ _ _ _ _ _; apply w_ldd; rfl; assumption; assumption)
    rename_i cs hcs hD hR
    refine w_pure rfl (ih _ (List.getElem_mem hc) ht hR) ?_
    cases hm : mayV v.list[i] with
    | true =>
      (apply w_not; rfl; apply w_done0; apply w_ifF; rfl; apply w_skip; apply w_reg; apply w_mvi; rfl; apply w_add; rfl; rfl; omega; omega; apply w_mvi; rfl; apply w_done0)
      exact ⟨i + 1, by omega, ⟨rfl, int_eq (by omega), trivial⟩, rfl, rfl, hc, by rw [List.take_succ_eq_append_getElem hc, List.all_append, hall]; simp [hm]⟩
    | false =>
      (apply w_not; rfl; apply w_done0; apply w_ifT; rfl; apply w_sq; apply w_reg; apply w_mvb; rfl; apply w_done0; apply w_ret)
      apply finQb; rfl
      rw [he, eq_comm, Bool.and_eq_false_iff]
      refine .inr ?_
      rw [← Bool.not_eq_true, List.all_eq_true]
      intro h; rw [h _ (List.getElem_mem hc)] at hm; cases hm
  · obtain rfl : i = v.list.length := by omega
    rw [List.take_length] at hall
    (apply w_sq; apply w_sq; apply w_reg; apply w_mvi; rfl; apply w_fld; rfl; apply w_ld; rfl; exact hc_i 0 rfl rfl; apply w_len; rfl; apply w_lss; rfl; rfl; apply w_done0; refine w_ifdF rfl (by omega) ?_; apply w_exit; apply w_sq; apply w_reg; apply w_ldb 0; rfl; rfl; rfl)
    refine w_pure rfl (h1 ht hv) ?_
    (apply w_mvb; rfl; apply w_done0; apply w_ret)
    apply finQb; rfl
    rw [he, hall, Bool.and_true]
def RRightOk (T : PHeap → Prop) (P : Program) (f : FuncId) : Prop := ∀ {d : PHeap} {cs : List Value} {v : V}, T d → RVal d cs v → depthV v ≤ 1000000000 → GPure P f [.agg cs.toArray] d (.int .i64 (rightV v))
def g_thimbleref03_Right (f_thimbleref03_Depth f_thimbleref03_all : Nat) : GFun :=
 ⟨9, [(.tmp 2)],
 (.seq
 (.reg false (.op false ⟨(some 1), none, (.box (.tmp 0))⟩
  (.op false ⟨(some 2), none, (.mv (.const (.int .i64 0)))⟩ .done)))
 (.seq (.seq
 (.reg false (.op false ⟨(some 3), none, (.ld (some 6) (.tmp 1))⟩
  (.op false ⟨(some 4), none, (.call f_thimbleref03_Depth [(.tmp 3)])⟩
  (.op false ⟨(some 5), none, (.bin .gtr (.tmp 4) (.const (.int .i64 48)))⟩ .done)))) (.cond (.tmp 5)
 (.seq
 (.reg false (.op false ⟨(some 2), none, (.mv (.const (.int .i64 31)))⟩ .done)) .ret) .skip))
 (.seq (.seq
 (.reg false (.op false ⟨(some 6), none, (.ld (some 6) (.tmp 1))⟩
  (.op false ⟨(some 7), none, (.call f_thimbleref03_all [(.tmp 6)])⟩
  (.op false ⟨(some 8), none, (.un .not (.tmp 7))⟩ .done)))) (.cond (.tmp 8)
 (.seq
 (.reg false (.op false ⟨(some 2), none, (.mv (.const (.int .i64 30)))⟩ .done)) .ret) .skip))
 (.seq
 (.reg false (.op false ⟨(some 2), none, (.mv (.const (.int .i64 0)))⟩ .done)) .ret))))⟩

theorem rright_ok {T : PHeap → Prop} {P : Program} {f f1 f2 : FuncId} (hd : dec P f = some (g_thimbleref03_Right f1 f2)) (h1 : RDepthOk P f1) (h2 : RAllOk T P f2) : RRightOk T P f := by
  intro d cs v ht hv hb
  refine GPure.of' hd (Nat.le_of_ble_eq_true rfl) ?_
  have hv' := hv
  obtain ⟨lv, kv, rfl, ik, im, ie, it, hl, hks⟩ := hv'.open
  show gwp P _ _ _ _ _
  apply w_sq; apply w_reg
  refine w_boxa (l := [.int .i64 v.kind, .int .i64 v.m, .int .i64 v.e, strV v.text, lv, kv]) rfl (fun b1 T1 => ?_)
  (apply w_mvi; rfl; apply w_done0; apply w_sq; apply w_sq; apply w_reg; apply w_ldb 0; rfl; rfl; rfl)
  refine w_pure rfl (h1 v hv hb) ?_
  by_cases h3 : depthV v ≤ 48
  · (apply w_gtr; rfl; rfl; apply w_done0; refine w_ifdF rfl (by omega) ?_; apply w_skip; apply w_sq; apply w_sq; apply w_reg; apply w_ldb 0; rfl; rfl; rfl)
    refine w_pure rfl (h2 v ht hv) ?_
    cases h4 : mayV v with
    | true =>
      (apply w_not; rfl; apply w_done0; apply w_ifF; rfl; apply w_skip; apply w_sq; apply w_reg; apply w_mvi; rfl; apply w_done0; apply w_ret)
      apply finQi; rfl
      simp [rightV, h3, h4]
    | false =>
      (apply w_not; rfl; apply w_done0; apply w_ifT; rfl; apply w_sq; apply w_reg; apply w_mvi; rfl; apply w_done0; apply w_ret)
      apply finQi; rfl
      simp [rightV, h3, h4]
  · (apply w_gtr; rfl; rfl; apply w_done0; refine w_ifdT rfl (by omega) ?_; apply w_sq; apply w_reg; apply w_mvi; rfl; apply w_done0; apply w_ret)
    apply finQi; rfl
    simp [rightV, h3]
end Go.Gk.Val
end

section
namespace Go.Gk.Val
open Go Go.Gk
attribute [local irreducible] gwp gws

mutual
def sameV : V → V → Bool
  | .mk k m e t l ks, b => decide (k = b.kind) && decide (m = b.m) && decide (e = b.e) && decide (t = b.text) && decide (ks = b.keys) && sames l b.list
def sames : List V → List V → Bool
  | [], [] => true
  | x :: l, y :: l' => sameV x y && sames l l'
  | _, _ => false
end
theorem sames_iff : ∀ {l l' : List V}, (∀ x ∈ l, ∀ y, sameV x y = true ↔ x = y) → (sames l l' = true ↔ l = l')
  | [], [], _ => by simp [sames]
  | [], _ :: _, _ => by simp [sames]
  | _ :: _, [], _ => by simp [sames]
  | x :: l, y :: l', h => by
    simp only [sames, Bool.and_eq_true, List.cons.injEq]
    rw [h x (List.mem_cons_self ..), sames_iff (fun z hz => h z (List.mem_cons_of_mem _ hz))]
theorem sameV_iff (a b : V) : sameV a b = true ↔ a = b := by
  induction a using V.ind generalizing b with
  | h a ih =>
  obtain ⟨k, m, e, t, l, ks⟩ := a
  obtain ⟨k', m', e', t', l', ks'⟩ := b
  simp only [sameV, Bool.and_eq_true, decide_eq_true_eq, V.mk.injEq]
  rw [sames_iff (fun x hx y => ih x hx y)]
  constructor
  · rintro ⟨⟨⟨⟨⟨a, b⟩, c⟩, d⟩, e⟩, f⟩; exact ⟨a, b, c, d, f, e⟩
  · rintro ⟨a, b, c, d, e, f⟩; exact ⟨⟨⟨⟨⟨a, b⟩, c⟩, d⟩, f⟩, e⟩
theorem same_of {a b : V} {r : Bool} (h : r = true ↔ a = b) : r = sameV a b := by rw [Bool.eq_iff_iff, h, sameV_iff]
def SameOk (P : Program) (f : FuncId) : Prop := ∀ (a b : V) {d : PHeap} {cs ds : List Value}, RVal d cs a → RVal d ds b → GPure P f [.agg cs.toArray, .agg ds.toArray] d (.bool (sameV a b))
def g_thimbleref03_Same (f_thimbleref03_Same : Nat) : GFun :=
 ⟨81, [(.tmp 4)],
 (.seq
 (.reg false (.op false ⟨(some 2), none, (.box (.tmp 0))⟩
  (.op false ⟨(some 3), none, (.box (.tmp 1))⟩
  (.op false ⟨(some 4), none, (.mv (.const (.bool false)))⟩ .done))))
 (.seq (.seq
 (.reg false (.op false ⟨(some 7), none, (.fld 0 (.tmp 2))⟩
  (.op false ⟨(some 8), none, (.ld none (.tmp 7))⟩
  (.op false ⟨(some 9), none, (.fld 0 (.tmp 3))⟩
  (.op false ⟨(some 10), none, (.ld none (.tmp 9))⟩
  (.op false ⟨(some 11), none, (.bin .neq (.tmp 8) (.tmp 10))⟩
  (.op false ⟨(some 12), none, (.mv (.tmp 11))⟩
  (.op false ⟨(some 13), (some (12, false)), (.fld 1 (.tmp 2))⟩
  (.op false ⟨(some 14), (some (12, false)), (.ld (some 2) (.tmp 13))⟩
  (.op false ⟨(some 15), (some (12, false)), (.fld 1 (.tmp 3))⟩
  (.op false ⟨(some 16), (some (12, false)), (.ld (some 2) (.tmp 15))⟩
  (.op false ⟨(some 17), (some (12, false)), (.eqc true [(0, 0), (0, 1)] (.tmp 14) (.tmp 16))⟩
  (.op false ⟨(some 18), none, (.pick (.tmp 12) (.const (.bool true)) (.tmp 17))⟩
  (.op false ⟨(some 19), none, (.mv (.tmp 18))⟩
  (.op false ⟨(some 20), (some (19, false)), (.fld 3 (.tmp 2))⟩
  (.op false ⟨(some 21), (some (19, false)), (.ld none (.tmp 20))⟩
  (.op false ⟨(some 22), (some (19, false)), (.fld 3 (.tmp 3))⟩
  (.op false ⟨(some 23), (some (19, false)), (.ld none (.tmp 22))⟩
  (.op false ⟨(some 24), (some (19, false)), (.bin .neq (.tmp 21) (.tmp 23))⟩
  (.op false ⟨(some 25), none, (.pick (.tmp 19) (.const (.bool true)) (.tmp 24))⟩
  (.op false ⟨(some 26), none, (.mv (.tmp 25))⟩
  (.op false ⟨(some 27), (some (26, false)), (.fld 4 (.tmp 2))⟩
  (.op false ⟨(some 28), (some (26, false)), (.ld none (.tmp 27))⟩
  (.op false ⟨(some 29), (some (26, false)), (.len (.tmp 28))⟩
  (.op false ⟨(some 30), (some (26, false)), (.fld 4 (.tmp 3))⟩
  (.op false ⟨(some 31), (some (26, false)), (.ld none (.tmp 30))⟩
  (.op false ⟨(some 32), (some (26, false)), (.len (.tmp 31))⟩
  (.op false ⟨(some 33), (some (26, false)), (.bin .neq (.tmp 29) (.tmp 32))⟩
  (.op false ⟨(some 34), none, (.pick (.tmp 26) (.const (.bool true)) (.tmp 33))⟩
  (.op false ⟨(some 35), none, (.mv (.tmp 34))⟩
  (.op false ⟨(some 36), (some (35, false)), (.fld 5 (.tmp 2))⟩
  (.op false ⟨(some 37), (some (35, false)), (.ld none (.tmp 36))⟩
  (.op false ⟨(some 38), (some (35, false)), (.len (.tmp 37))⟩
  (.op false ⟨(some 39), (some (35, false)), (.fld 5 (.tmp 3))⟩
  (.op false ⟨(some 40), (some (35, false)), (.ld none (.tmp 39))⟩
  (.op false ⟨(some 41), (some (35, false)), (.len (.tmp 40))⟩
  (.op false ⟨(some 42), (some (35, false)), (.bin .neq (.tmp 38) (.tmp 41))⟩
  (.op false ⟨(some 43), none, (.pick (.tmp 35) (.const (.bool true)) (.tmp 42))⟩ .done)))))))))))))))))))))))))))))))))))))) (.cond (.tmp 43)
 (.seq
 (.reg false (.op false ⟨(some 4), none, (.mv (.const (.bool false)))⟩ .done)) .ret) .skip))
 (.seq (.seq
 (.reg false (.op false ⟨(some 5), none, (.mv (.const (.int .i64 0)))⟩ .done)) (.block 0 (.loop
 (.seq (.seq
 (.reg false (.op false ⟨(some 44), none, (.mv (.tmp 5))⟩
  (.op false ⟨(some 45), none, (.fld 5 (.tmp 2))⟩
  (.op false ⟨(some 46), none, (.ld none (.tmp 45))⟩
  (.op false ⟨(some 47), none, (.len (.tmp 46))⟩
  (.op false ⟨(some 48), none, (.bin .lss (.tmp 44) (.tmp 47))⟩ .done)))))) (.cond (.tmp 48) .skip (.exit 0)))
 (.seq (.block 1
 (.seq
 (.reg true (.op true ⟨(some 51), none, (.fld 5 (.tmp 2))⟩
  (.op true ⟨(some 52), none, (.ld none (.tmp 51))⟩
  (.op true ⟨(some 53), none, (.mv (.tmp 5))⟩
  (.op true ⟨(some 54), none, (.idx 1 (.tmp 52) (.tmp 53))⟩
  (.op true ⟨(some 55), none, (.ld none (.tmp 54))⟩
  (.op true ⟨(some 56), none, (.fld 5 (.tmp 3))⟩
  (.op true ⟨(some 57), none, (.ld none (.tmp 56))⟩
  (.op true ⟨(some 58), none, (.mv (.tmp 5))⟩
  (.op true ⟨(some 59), none, (.idx 1 (.tmp 57) (.tmp 58))⟩
  (.op true ⟨(some 60), none, (.ld none (.tmp 59))⟩
  (.op true ⟨(some 61), none, (.bin .neq (.tmp 55) (.tmp 60))⟩ .done)))))))))))) (.cond (.tmp 61)
 (.seq
 (.reg false (.op false ⟨(some 4), none, (.mv (.const (.bool false)))⟩ .done)) .ret) .skip)))
 (.reg false (.op false ⟨(some 49), none, (.mv (.tmp 5))⟩
  (.op false ⟨(some 50), none, (.bin .add (.tmp 49) (.const (.int .i64 1)))⟩
  (.op false ⟨(some 5), none, (.mv (.tmp 50))⟩ .done)))))))))
 (.seq (.seq
 (.reg false (.op false ⟨(some 6), none, (.mv (.const (.int .i64 0)))⟩ .done)) (.block 2 (.loop
 (.seq (.seq
 (.reg false (.op false ⟨(some 62), none, (.mv (.tmp 6))⟩
  (.op false ⟨(some 63), none, (.fld 4 (.tmp 2))⟩
  (.op false ⟨(some 64), none, (.ld none (.tmp 63))⟩
  (.op false ⟨(some 65), none, (.len (.tmp 64))⟩
  (.op false ⟨(some 66), none, (.bin .lss (.tmp 62) (.tmp 65))⟩ .done)))))) (.cond (.tmp 66) .skip (.exit 2)))
 (.seq (.block 3
 (.seq
 (.reg true (.op true ⟨(some 69), none, (.fld 4 (.tmp 2))⟩
  (.op true ⟨(some 70), none, (.ld none (.tmp 69))⟩
  (.op true ⟨(some 71), none, (.mv (.tmp 6))⟩
  (.op true ⟨(some 72), none, (.idx 6 (.tmp 70) (.tmp 71))⟩
  (.op true ⟨(some 73), none, (.ld (some 6) (.tmp 72))⟩
  (.op true ⟨(some 74), none, (.fld 4 (.tmp 3))⟩
  (.op true ⟨(some 75), none, (.ld none (.tmp 74))⟩
  (.op true ⟨(some 76), none, (.mv (.tmp 6))⟩
  (.op true ⟨(some 77), none, (.idx 6 (.tmp 75) (.tmp 76))⟩
  (.op true ⟨(some 78), none, (.ld (some 6) (.tmp 77))⟩
  (.op false ⟨(some 79), none, (.call f_thimbleref03_Same [(.tmp 73), (.tmp 78)])⟩
  (.op true ⟨(some 80), none, (.un .not (.tmp 79))⟩ .done))))))))))))) (.cond (.tmp 80)
 (.seq
 (.reg false (.op false ⟨(some 4), none, (.mv (.const (.bool false)))⟩ .done)) .ret) .skip)))
 (.reg false (.op false ⟨(some 67), none, (.mv (.tmp 6))⟩
  (.op false ⟨(some 68), none, (.bin .add (.tmp 67) (.const (.int .i64 1)))⟩
  (.op false ⟨(some 6), none, (.mv (.tmp 68))⟩ .done)))))))))
 (.seq
 (.reg false (.op false ⟨(some 4), none, (.mv (.const (.bool true)))⟩ .done)) .ret)))))⟩

set_option maxHeartbeats 1000000 in
theorem same_ok {P : Program} {f : FuncId} (hd : dec P f = some (g_thimbleref03_Same f)) : SameOk P f := by
  intro a
  induction a using V.ind with
  | h a ih =>
  intro b d cs ds ha hb
  refine GPure.of' hd (Nat.le_of_ble_eq_true rfl) ?_
  have hbad : ∀ {p : Prop}, ¬ p → (a = b → p) → false = sameV a b := fun h1 h2 => same_of ⟨fun h => (by cases h), fun h => absurd (h2 h) h1⟩
  obtain ⟨lv, kv, rfl, ik, im, ie, it, hl, hks⟩ := ha.open
  obtain ⟨la, lc, rfl⟩ := RSl.val hl
  obtain ⟨ka, kc, rfl⟩ := RSl.val hks
  obtain ⟨lv', kv', rfl, ik', im', ie', it', hl', hks'⟩ := hb.open
  obtain ⟨la', lc', rfl⟩ := RSl.val hl'
  obtain ⟨ka', kc', rfl⟩ := RSl.val hks'
  have q1 : RSl 6 RVal d (.slice la a.list.length lc) a.list := hl
  have q2 : RSl 6 RVal d (.slice la' b.list.length lc') b.list := hl'
  have q3 : RSl 1 RStr d (.slice ka a.keys.length kc) a.keys := hks
  have q4 : RSl 1 RStr d (.slice ka' b.keys.length kc') b.keys := hks'
  have n1 := RSl.len_le hl
  have n2 := RSl.len_le hl'
  have n3 := RSl.len_le hks
  have n4 := RSl.len_le hks'
  show gwp P _ _ _ _ _
  apply w_sq; apply w_reg
  refine w_boxa (l := [.int .i64 a.kind, .int .i64 a.m, .int .i64 a.e, strV a.text, .slice la a.list.length lc, .slice ka a.keys.length kc]) rfl (fun b2 T2 => ?_)
  refine w_boxa (l := [.int .i64 b.kind, .int .i64 b.m, .int .i64 b.e, strV b.text, .slice la' b.list.length lc', .slice ka' b.keys.length kc']) rfl (fun b3 T3 => ?_)
  by_cases h1 : a.kind ≠ b.kind
  · (apply w_mvb; rfl; apply w_done0; apply w_sq; apply w_sq; apply w_reg; apply w_fld; rfl; apply w_ld; rfl; exact hc_i 1 rfl rfl; apply w_fld; rfl; apply w_ld; rfl; exact hc_i 0 rfl rfl; apply w_neq; rfl; rfl; apply w_mvb; rfl; refine w_gdT rfl (by omega) ?_; apply w_gF; rfl; apply w_gF; rfl; apply w_gF; rfl; apply w_gF; rfl; apply w_gF; rfl; apply w_pickTb; rfl; rfl; apply w_mvb; rfl; apply w_gF; rfl; apply w_gF; rfl; apply w_gF; rfl; apply w_gF; rfl; apply w_gF; rfl; apply w_pickTb; rfl; rfl; apply w_mvb; rfl; apply w_gF; rfl; apply w_gF; rfl; apply w_gF; rfl; apply w_gF; rfl; apply w_gF; rfl; apply w_gF; rfl; apply w_gF; rfl; apply w_pickTb; rfl; rfl; apply w_mvb; rfl; apply w_gF; rfl; apply w_gF; rfl; apply w_gF; rfl; apply w_gF; rfl; apply w_gF; rfl; apply w_gF; rfl; apply w_gF; rfl; apply w_pickTb; rfl; rfl; apply w_done0; apply w_ifT; rfl; apply w_sq; apply w_reg; apply w_mvb; rfl; apply w_done0; apply w_ret)
    apply finQb; rfl
    exact hbad (p := a.kind = b.kind) h1 (fun h => by rw [h])
  by_cases h2 : (true ^^ (decide (a.m = b.m) && decide (a.e = b.e))) = true
  · (apply w_mvb; rfl; apply w_done0; apply w_sq; apply w_sq; apply w_reg; apply w_fld; rfl; apply w_ld; rfl; exact hc_i 1 rfl rfl; apply w_fld; rfl; apply w_ld; rfl; exact hc_i 0 rfl rfl; apply w_neq; rfl; rfl; apply w_mvb; rfl; refine w_gdF rfl (by omega) ?_; apply w_gT; rfl; apply w_fld; rfl; apply w_gT; rfl; apply w_ldp 1; rfl; rfl; rfl; apply w_gT; rfl; apply w_fld; rfl; apply w_gT; rfl; apply w_ldp 0; rfl; rfl; rfl; apply w_gT; rfl; apply w_eqc2; rfl; rfl; apply w_pickFb; rfl; rfl; apply w_mvb; rfl; apply w_gbT; rfl; (with_reducible assumption); apply w_gF; rfl; apply w_gF; rfl; apply w_gF; rfl; apply w_gF; rfl; apply w_gF; rfl; apply w_pickTb; rfl; rfl; apply w_mvb; rfl; apply w_gF; rfl; apply w_gF; rfl; apply w_gF; rfl; apply w_gF; rfl; apply w_gF; rfl; apply w_gF; rfl; apply w_gF; rfl; apply w_pickTb; rfl; rfl; apply w_mvb; rfl; apply w_gF; rfl; apply w_gF; rfl; apply w_gF; rfl; apply w_gF; rfl; apply w_gF; rfl; apply w_gF; rfl; apply w_gF; rfl; apply w_pickTb; rfl; rfl; apply w_done0; apply w_ifT; rfl; apply w_sq; apply w_reg; apply w_mvb; rfl; apply w_done0; apply w_ret)
    apply finQb; rfl
    refine hbad (p := a.m = b.m ∧ a.e = b.e) (fun h => ?_) (fun h => by rw [h]; exact ⟨rfl, rfl⟩)
    rw [h.1, h.2] at h2; simp at h2
  have h2' : (true ^^ (decide (a.m = b.m) && decide (a.e = b.e))) = false := by simpa using h2
  by_cases h3 : a.text ≠ b.text
  · (apply w_mvb; rfl; apply w_done0; apply w_sq; apply w_sq; apply w_reg; apply w_fld; rfl; apply w_ld; rfl; exact hc_i 1 rfl rfl; apply w_fld; rfl; apply w_ld; rfl; exact hc_i 0 rfl rfl; apply w_neq; rfl; rfl; apply w_mvb; rfl; refine w_gdF rfl (by omega) ?_; apply w_gT; rfl; apply w_fld; rfl; apply w_gT; rfl; apply w_ldp 1; rfl; rfl; rfl; apply w_gT; rfl; apply w_fld; rfl; apply w_gT; rfl; apply w_ldp 0; rfl; rfl; rfl; apply w_gT; rfl; apply w_eqc2; rfl; rfl; apply w_pickFb; rfl; rfl; apply w_mvb; rfl; apply w_gbF; rfl; (with_reducible assumption); apply w_gT; rfl; apply w_fld; rfl; apply w_gT; rfl; apply w_ld; rfl; exact hc_i 1 rfl rfl; apply w_gT; rfl; apply w_fld; rfl; apply w_gT; rfl; apply w_ld; rfl; exact hc_i 0 rfl rfl; apply w_gT; rfl; apply w_sne; rfl; rfl; apply w_pickFb; rfl; rfl; apply w_mvb; rfl; refine w_gdT rfl (by omega) ?_; apply w_gF; rfl; apply w_gF; rfl; apply w_gF; rfl; apply w_gF; rfl; apply w_gF; rfl; apply w_gF; rfl; apply w_gF; rfl; apply w_pickTb; rfl; rfl; apply w_mvb; rfl; apply w_gF; rfl; apply w_gF; rfl; apply w_gF; rfl; apply w_gF; rfl; apply w_gF; rfl; apply w_gF; rfl; apply w_gF; rfl; apply w_pickTb; rfl; rfl; apply w_done0; apply w_ifT; rfl; apply w_sq; apply w_reg; apply w_mvb; rfl; apply w_done0; apply w_ret)
    apply finQb; rfl
    exact hbad (p := a.text = b.text) h3 (fun h => by rw [h])
  by_cases h4 : (a.list.length : Int) ≠ b.list.length
  · (apply w_mvb; rfl; apply w_done0; apply w_sq; apply w_sq; apply w_reg; apply w_fld; rfl; apply w_ld; rfl; exact hc_i 1 rfl rfl; apply w_fld; rfl; apply w_ld; rfl; exact hc_i 0 rfl rfl; apply w_neq; rfl; rfl; apply w_mvb; rfl; refine w_gdF rfl (by omega) ?_; apply w_gT; rfl; apply w_fld; rfl; apply w_gT; rfl; apply w_ldp 1; rfl; rfl; rfl; apply w_gT; rfl; apply w_fld; rfl; apply w_gT; rfl; apply w_ldp 0; rfl; rfl; rfl; apply w_gT; rfl; apply w_eqc2; rfl; rfl; apply w_pickFb; rfl; rfl; apply w_mvb; rfl; apply w_gbF; rfl; (with_reducible assumption); apply w_gT; rfl; apply w_fld; rfl; apply w_gT; rfl; apply w_ld; rfl; exact hc_i 1 rfl rfl; apply w_gT; rfl; apply w_fld; rfl; apply w_gT; rfl; apply w_ld; rfl; exact hc_i 0 rfl rfl; apply w_gT; rfl; apply w_sne; rfl; rfl; apply w_pickFb; rfl; rfl; apply w_mvb; rfl; refine w_gdF rfl (by omega) ?_; apply w_gT; rfl; apply w_fld; rfl; apply w_gT; rfl; apply w_ld; rfl; exact hc_i 1 rfl rfl; apply w_gT; rfl; apply w_len; rfl; apply w_gT; rfl; apply w_fld; rfl; apply w_gT; rfl; apply w_ld; rfl; exact hc_i 0 rfl rfl; apply w_gT; rfl; apply w_len; rfl; apply w_gT; rfl; apply w_neq; rfl; rfl; apply w_pickFb; rfl; rfl; apply w_mvb; rfl; refine w_gdT rfl (by omega) ?_; apply w_gF; rfl; apply w_gF; rfl; apply w_gF; rfl; apply w_gF; rfl; apply w_gF; rfl; apply w_gF; rfl; apply w_gF; rfl; apply w_pickTb; rfl; rfl; apply w_done0; apply w_ifT; rfl; apply w_sq; apply w_reg; apply w_mvb; rfl; apply w_done0; apply w_ret)
    apply finQb; rfl
    exact hbad (p := (a.list.length : Int) = b.list.length) h4 (fun h => by rw [h])
  by_cases h5 : (a.keys.length : Int) ≠ b.keys.length
  · (apply w_mvb; rfl; apply w_done0; apply w_sq; apply w_sq; apply w_reg; apply w_fld; rfl; apply w_ld; rfl; exact hc_i 1 rfl rfl; apply w_fld; rfl; apply w_ld; rfl; exact hc_i 0 rfl rfl; apply w_neq; rfl; rfl; apply w_mvb; rfl; refine w_gdF rfl (by omega) ?_; apply w_gT; rfl; apply w_fld; rfl; apply w_gT; rfl; apply w_ldp 1; rfl; rfl; rfl; apply w_gT; rfl; apply w_fld; rfl; apply w_gT; rfl; apply w_ldp 0; rfl; rfl; rfl; apply w_gT; rfl; apply w_eqc2; rfl; rfl; apply w_pickFb; rfl; rfl; apply w_mvb; rfl; apply w_gbF; rfl; (with_reducible assumption); apply w_gT; rfl; apply w_fld; rfl; apply w_gT; rfl; apply w_ld; rfl; exact hc_i 1 rfl rfl; apply w_gT; rfl; apply w_fld; rfl; apply w_gT; rfl; apply w_ld; rfl; exact hc_i 0 rfl rfl; apply w_gT; rfl; apply w_sne; rfl; rfl; apply w_pickFb; rfl; rfl; apply w_mvb; rfl; refine w_gdF rfl (by omega) ?_; apply w_gT; rfl; apply w_fld; rfl; apply w_gT; rfl; apply w_ld; rfl; exact hc_i 1 rfl rfl; apply w_gT; rfl; apply w_len; rfl; apply w_gT; rfl; apply w_fld; rfl; apply w_gT; rfl; apply w_ld; rfl; exact hc_i 0 rfl rfl; apply w_gT; rfl; apply w_len; rfl; apply w_gT; rfl; apply w_neq; rfl; rfl; apply w_pickFb; rfl; rfl; apply w_mvb; rfl; refine w_gdF rfl (by omega) ?_; apply w_gT; rfl; apply w_fld; rfl; apply w_gT; rfl; apply w_ld; rfl; exact hc_i 1 rfl rfl; apply w_gT; rfl; apply w_len; rfl; apply w_gT; rfl; apply w_fld; rfl; apply w_gT; rfl; apply w_ld; rfl; exact hc_i 0 rfl rfl; apply w_gT; rfl; apply w_len; rfl; apply w_gT; rfl; apply w_neq; rfl; rfl; apply w_pickFb; rfl; rfl; apply w_done0; refine w_ifdT rfl (by omega) ?_; apply w_sq; apply w_reg; apply w_mvb; rfl; apply w_done0; apply w_ret)
    apply finQb; rfl
    exact hbad (p := (a.keys.length : Int) = b.keys.length) h5 (fun h => by rw [h])
  (apply w_mvb; rfl; apply w_done0; apply w_sq; apply w_sq; apply w_reg; apply w_fld; rfl; apply w_ld; rfl; exact hc_i 1 rfl rfl; apply w_fld; rfl; apply w_ld; rfl; exact hc_i 0 rfl rfl; apply w_neq; rfl; rfl; apply w_mvb; rfl; refine w_gdF rfl (by omega) ?_; apply w_gT; rfl; apply w_fld; rfl; apply w_gT; rfl; apply w_ldp 1; rfl; rfl; rfl; apply w_gT; rfl; apply w_fld; rfl; apply w_gT; rfl; apply w_ldp 0; rfl; rfl; rfl; apply w_gT; rfl; apply w_eqc2; rfl; rfl; apply w_pickFb; rfl; rfl; apply w_mvb; rfl; apply w_gbF; rfl; (with_reducible assumption); apply w_gT; rfl; apply w_fld; rfl; apply w_gT; rfl; apply w_ld; rfl; exact hc_i 1 rfl rfl; apply w_gT; rfl; apply w_fld; rfl; apply w_gT; rfl; apply w_ld; rfl; exact hc_i 0 rfl rfl; apply w_gT; rfl; apply w_sne; rfl; rfl; apply w_pickFb; rfl; rfl; apply w_mvb; rfl; refine w_gdF rfl (by omega) ?_; apply w_gT; rfl; apply w_fld; rfl; apply w_gT; rfl; apply w_ld; rfl; exact hc_i 1 rfl rfl; apply w_gT; rfl; apply w_len; rfl; apply w_gT; rfl; apply w_fld; rfl; apply w_gT; rfl; apply w_ld; rfl; exact hc_i 0 rfl rfl; apply w_gT; rfl; apply w_len; rfl; apply w_gT; rfl; apply w_neq; rfl; rfl; apply w_pickFb; rfl; rfl; apply w_mvb; rfl; refine w_gdF rfl (by omega) ?_; apply w_gT; rfl; apply w_fld; rfl; apply w_gT; rfl; apply w_ld; rfl; exact hc_i 1 rfl rfl; apply w_gT; rfl; apply w_len; rfl; apply w_gT; rfl; apply w_fld; rfl; apply w_gT; rfl; apply w_ld; rfl; exact hc_i 0 rfl rfl; apply w_gT; rfl; apply w_len; rfl; apply w_gT; rfl; apply w_neq; rfl; rfl; apply w_pickFb; rfl; rfl; apply w_done0; refine w_ifdF rfl (by omega) ?_; apply w_skip; apply w_sq; apply w_sq; apply w_reg; apply w_mvi; rfl; apply w_done0; apply w_block)
  refine w_loopN (α := Nat) (fun i => [(2, .pointer (some ⟨b2, 0, none⟩)), (3, .pointer (some ⟨b3, 0, none⟩)), (5, .int .i64 i)]) (fun _ => [bx b3 T3 [.int .i64 b.kind, .int .i64 b.m, .int .i64 b.e, strV b.text, .slice la' b.list.length lc', .slice ka' b.keys.length kc'], bx b2 T2 [.int .i64 a.kind, .int .i64 a.m, .int .i64 a.e, strV a.text, .slice la a.list.length lc, .slice ka a.keys.length kc]])
    (fun i => i ≤ a.keys.length ∧ a.keys.take i = b.keys.take i) (fun i => a.keys.length - i) 0 ⟨rfl, rfl, rfl, trivial⟩ rfl ⟨Nat.zero_le _, by simp⟩ ?_
  rintro i ρ ⟨hi, hki⟩
  by_cases hc : i < a.keys.length
  · have hc' : i < b.keys.length := by omega
    by_cases h6 : a.keys[i] ≠ b.keys[i]
    · (apply w_sq; apply w_sq; apply w_reg; apply w_mvi; rfl; apply w_fld; rfl; apply w_ld; rfl; exact hc_i 1 rfl rfl; apply w_len; rfl; apply w_lss; rfl; rfl; apply w_done0; refine w_ifdT rfl (by omega) ?_; apply w_skip; apply w_sq; apply w_block; apply w_sq; apply w_drawn; apply w_fld; rfl; apply w_ld; rfl; exact hc_i 1 rfl rfl; apply w_mvi; rfl; refine w_idxR (sz := 1) (R := RStr) (by rfl) (by assumption) (by rfl) rfl (by omega) ?_; rintro _ _ _ _ _ ⟨rfl, _⟩; apply w_ld; rfl; exact hc_ds0 (by assumption) rfl; apply w_fld; rfl; apply w_ld; rfl; exact hc_i 0 rfl rfl; apply w_mvi; rfl; refine w_idxR (sz := 1) (R := RStr) (by rfl) (by assumption) (by rfl) rfl (by omega) ?_; rintro _ _ _ _ _ ⟨rfl, _⟩; apply w_ld; rfl; exact hc_ds0 (by assumption) rfl; apply w_sne; rfl; rfl; apply w_done; refine w_ifdT rfl (by omega) ?_; apply w_sq; apply w_reg; apply w_mvb; rfl; apply w_done0; apply w_ret)
      apply finQb; rfl
      refine hbad (p := a.keys[i] = b.keys[i]) h6 (fun h => ?_)
      have := congrArg V.keys h
      simp only [this]
    · (apply w_sq; apply w_sq; apply w_reg; apply w_mvi; rfl; apply w_fld; rfl; apply w_ld; rfl; exact hc_i 1 rfl rfl; apply w_len; rfl; apply w_lss; rfl; rfl; apply w_done0; refine w_ifdT rfl (by omega) ?_; apply w_skip; apply w_sq; apply w_block; apply w_sq; apply w_drawn; apply w_fld; rfl; apply w_ld; rfl; exact hc_i 1 rfl rfl; apply w_mvi; rfl; refine w_idxR (sz := 1) (R := RStr) (by rfl) (by assumption) (by rfl) rfl (by omega) ?_; rintro _ _ _ _ _ ⟨rfl, _⟩; apply w_ld; rfl; exact hc_ds0 (by assumption) rfl; apply w_fld; rfl; apply w_ld; rfl; exact hc_i 0 rfl rfl; apply w_mvi; rfl; refine w_idxR (sz := 1) (R := RStr) (by rfl) (by assumption) (by rfl) rfl (by omega) ?_; rintro _ _ _ _ _ ⟨rfl, _⟩; apply w_ld; rfl; exact hc_ds0 (by assumption) rfl; apply w_sne; rfl; rfl; apply w_done; refine w_ifdF rfl (by omega) ?_; apply w_skip; apply w_reg; apply w_mvi; rfl; apply w_add; rfl; rfl; omega; omega; apply w_mvi; rfl; apply w_done0)
      refine ⟨i + 1, by omega, ⟨rfl, rfl, int_eq (by omega), trivial⟩, rfl, rfl, hc, ?_⟩
      have h7 : a.keys[i] = b.keys[i] := by simpa using h6
      rw [List.take_succ_eq_append_getElem hc, List.take_succ_eq_append_getElem hc', hki, h7]
  obtain rfl : i = a.keys.length := by omega
  have hkeys : a.keys = b.keys := by
    rw [List.take_length] at hki
    rw [hki]; exact List.take_of_length_le (by omega)
  clear hki hi
  (apply w_sq; apply w_sq; apply w_reg; apply w_mvi; rfl; apply w_fld; rfl; apply w_ld; rfl; exact hc_i 1 rfl rfl; apply w_len; rfl; apply w_lss; rfl; rfl; apply w_done0; refine w_ifdF rfl (by omega) ?_; apply w_exit; apply w_sq; apply w_sq; apply w_reg; apply w_mvi; rfl; apply w_done0; apply w_block)
  refine w_loopN (α := Nat) (fun i => [(2, .pointer (some ⟨b2, 0, none⟩)), (3, .pointer (some ⟨b3, 0, none⟩)), (6, .int .i64 i)]) (fun _ => [bx b3 T3 [.int .i64 b.kind, .int .i64 b.m, .int .i64 b.e, strV b.text, .slice la' b.list.length lc', .slice ka' b.keys.length kc'], bx b2 T2 [.int .i64 a.kind, .int .i64 a.m, .int .i64 a.e, strV a.text, .slice la a.list.length lc, .slice ka a.keys.length kc]])
    (fun i => i ≤ a.list.length ∧ a.list.take i = b.list.take i) (fun i => a.list.length - i) 0 ⟨rfl, rfl, rfl, trivial⟩ rfl ⟨Nat.zero_le _, by simp⟩ ?_
  rintro i ρ ⟨hi, hki⟩
  by_cases hc' : i < a.list.length
  · have hc2 : i < b.list.length := by omega
    (apply w_sq; apply w_sq; apply w_reg; apply w_mvi; rfl; apply w_fld; rfl; apply w_ld; rfl; exact hc_i 1 rfl rfl; apply w_len; rfl; apply w_lss; rfl; rfl; apply w_done0; refine w_ifdT rfl (by omega) ?_; apply w_skip; apply w_sq; apply w_block; apply w_sq; apply w_drawn; apply w_fld; rfl; apply w_ld; rfl; exact hc_i 1 rfl rfl; apply w_mvi; rfl; refine w_idxR (sz := 6) (R := RVal) (by rfl) (by assumption) (by rfl) rfl (by omega) ?_; rintro _ _ _ _ _ _; apply w_ldd; rfl; assumption; assumption; apply w_fld; rfl; apply w_ld; rfl; exact hc_i 0 rfl rfl; apply w_mvi; rfl; refine w_idxR (sz := 6) (R := RVal) (by rfl) (by assumption) (by rfl) rfl (by omega) ?_; rintro _ _ _ _ _ _; apply w_ldd; rfl; assumption; assumption)
    rename_i cs1 hcs1 hD1 hR1 _ _ cs2 hcs2 hD2 hR2
    refine w_pure rfl (ih _ (List.getElem_mem hc') b.list[i] hR1 hR2) ?_
    cases h6 : sameV a.list[i] b.list[i] with
    | false =>
      (apply w_not; rfl; apply w_done; apply w_ifT; rfl; apply w_sq; apply w_reg; apply w_mvb; rfl; apply w_done0; apply w_ret)
      apply finQb; rfl
      refine hbad (p := a.list[i] = b.list[i]) (fun h => ?_) (fun h => ?_)
      · have := (sameV_iff _ _).2 h; rw [h6] at this; cases this
      · have := congrArg V.list h
        simp only [this]
    | true =>
      (apply w_not; rfl; apply w_done; apply w_ifF; rfl; apply w_skip; apply w_reg; apply w_mvi; rfl; apply w_add; rfl; rfl; omega; omega; apply w_mvi; rfl; apply w_done0)
      refine ⟨i + 1, by omega, ⟨rfl, rfl, int_eq (by omega), trivial⟩, rfl, rfl, hc', ?_⟩
      rw [List.take_succ_eq_append_getElem hc', List.take_succ_eq_append_getElem hc2, hki, (sameV_iff _ _).1 h6]
  · obtain rfl : i = a.list.length := by omega
    have hlist : a.list = b.list := by
      rw [List.take_length] at hki
      rw [hki]; exact List.take_of_length_le (by omega)
    (apply w_sq; apply w_sq; apply w_reg; apply w_mvi; rfl; apply w_fld; rfl; apply w_ld; rfl; exact hc_i 1 rfl rfl; apply w_len; rfl; apply w_lss; rfl; rfl; apply w_done0; refine w_ifdF rfl (by omega) ?_; apply w_exit; apply w_sq; apply w_reg; apply w_mvb; rfl; apply w_done0; apply w_ret)
    apply finQb; rfl
    refine same_of ⟨fun _ => V.ext (by omega) ?_ ?_ (by simpa using h3) hlist hkeys, fun _ => rfl⟩
    · simp only [Bool.true_xor, Bool.not_eq_false', Bool.and_eq_true, decide_eq_true_eq] at h2'; exact h2'.1
    · simp only [Bool.true_xor, Bool.not_eq_false', Bool.and_eq_true, decide_eq_true_eq] at h2'; exact h2'.2
end Go.Gk.Val
end

section
namespace Go.Gk.Val
open Go Go.Gk
attribute [local irreducible] gwp gws

set_option maxHeartbeats 1000000 in
theorem rone_ok {T : PHeap → Prop} {P : Program} {f f1 f2 : FuncId} (hd : dec P f = some (g_thimbleref03_one f1 f2)) (h1 : QuoteOk T P f1) (h2 : NumOk T P f2) : ROneOk T P f := by
  intro d cs v ht hv
  refine GPure.of' hd (Nat.le_of_ble_eq_true rfl) ?_
  obtain ⟨lv, kv, rfl, ik, im, ie, it, hl, hks⟩ := hv.open
  obtain ⟨la, lc, rfl⟩ := RSl.val hl
  obtain ⟨ka, kc, rfl⟩ := RSl.val hks
  obtain ⟨k, m, e, t, l, ks⟩ := v
  simp only [V.kind, V.m, V.e, V.text, V.list, V.keys] at *
  have hks' : RSl 1 RStr d (.slice ka ks.length kc) ks := hks
  have n1 := RSl.len_le hl
  have n2 := RSl.len_le hks
  have hsl : ∀ i (h : i < ks.length), ks[i].length ≤ 140737488355328 := fun i h => by
    obtain ⟨_, _, _, _, _, _, _, _, _, _, _, h8⟩ := hks
    obtain ⟨cs, _, _, _, h9⟩ := h8 i h
    exact h9
  show gwp P _ _ _ _ _
  apply w_sq; apply w_reg
  refine w_boxa (l := [.int .i64 k, .int .i64 m, .int .i64 e, strV t, .slice la l.length lc, .slice ka ks.length kc]) rfl (fun b1 T1 => ?_)
  (apply w_mvb; rfl; apply w_done0)
  apply w_sq; apply w_reg
  (apply w_fld; rfl; apply w_ld; rfl; exact hc_i 0 rfl rfl; apply w_bld; rfl; apply w_alo; intro _ _)
  rename_i b3 T3
  refine w_stE 0 [.int .i64 k, .int .i64 0, .int .i64 0, strV [], .slice none 0 0, .slice none 0 0] rfl rfl rfl rfl (Nat.le_of_ble_eq_true rfl) rfl rfl ?_
  (apply w_done0)
  refine w_mid (fun ρ d' L' => d' = d ∧ SlotsAre ρ [(1, .pointer (some ⟨b1, 0, none⟩)), (3, .pointer (some ⟨b3, 0, none⟩))] ∧ ∃ pm pe pt pla pln plc pka pkn pkc, L' = [bx b3 T3 [.int .i64 k, .int .i64 pm, .int .i64 pe, strV pt, .slice pla pln plc, .slice pka pkn pkc], bx b1 T1 [.int .i64 k, .int .i64 m, .int .i64 e, strV t, .slice la l.length lc, .slice ka ks.length kc]] ∧
    bareB (.mk k m e t l ks) = (decide (m = pm ∧ e = pe) && decide (t = pt) && decide (l.length = pln) && decide (ks.length = pkn)) ∧ (k ≠ 6 ∨ ks.length = l.length)) ?_ ?_
  · by_cases h0 : k < 0 ∨ 6 < k
    · have hz := one_k (v := .mk k m e t l ks) h0
      (apply w_sq; apply w_reg; apply w_fld; rfl; apply w_ld; rfl; exact hc_i 1 rfl rfl; apply w_done0; apply w_block; apply w_sq; apply w_sq; apply w_reg; apply w_eql; rfl; rfl; apply w_mvb; rfl; apply w_done0; refine w_ifdF rfl (by omega) ?_; apply w_sq; apply w_reg; apply w_eql; rfl; rfl; apply w_mvb; rfl; apply w_done0; refine w_ifdF rfl (by omega) ?_; apply w_reg; apply w_eql; rfl; rfl; apply w_mvb; rfl; apply w_done0; refine w_ifdF rfl (by omega) ?_; apply w_sq; apply w_reg; apply w_eql; rfl; rfl; apply w_mvb; rfl; apply w_done0; refine w_ifdF rfl (by omega) ?_; apply w_sq; apply w_reg; apply w_eql; rfl; rfl; apply w_mvb; rfl; apply w_done0; refine w_ifdF rfl (by omega) ?_; apply w_sq; apply w_reg; apply w_eql; rfl; rfl; apply w_mvb; rfl; apply w_done0; refine w_ifdF rfl (by omega) ?_; apply w_sq; apply w_reg; apply w_eql; rfl; rfl; apply w_mvb; rfl; apply w_done0; refine w_ifdF rfl (by omega) ?_; apply w_sq; apply w_reg; apply w_mvb; rfl; apply w_done0; apply w_ret)
      apply finQb; rfl
      exact hz.symm
    by_cases h_0 : k = 0
    · subst h_0
      (apply w_sq; apply w_reg; apply w_fld; rfl; apply w_ld; rfl; exact hc_i 1 rfl rfl; apply w_done0; apply w_block; apply w_sq; apply w_sq; apply w_reg; apply w_eql; rfl; rfl; apply w_mvb; rfl; apply w_done0; refine w_ifdT rfl (by omega) ?_; apply w_skip; refine w_ifdT rfl (by omega) ?_; apply w_skip)
      exact ⟨rfl, ⟨rfl, rfl, trivial⟩, 0, 0, [], none, 0, 0, none, 0, 0, rfl, by simp [bareB, V.kind, V.m, V.e, V.text, V.list, V.keys], .inl (by decide)⟩
    by_cases h_1 : k = 1
    · subst h_1
      (apply w_sq; apply w_reg; apply w_fld; rfl; apply w_ld; rfl; exact hc_i 1 rfl rfl; apply w_done0; apply w_block; apply w_sq; apply w_sq; apply w_reg; apply w_eql; rfl; rfl; apply w_mvb; rfl; apply w_done0; refine w_ifdF rfl (by omega) ?_; apply w_sq; apply w_reg; apply w_eql; rfl; rfl; apply w_mvb; rfl; apply w_done0; refine w_ifdT rfl (by omega) ?_; apply w_skip; refine w_ifdT rfl (by omega) ?_; apply w_skip)
      exact ⟨rfl, ⟨rfl, rfl, trivial⟩, 0, 0, [], none, 0, 0, none, 0, 0, rfl, by simp [bareB, V.kind, V.m, V.e, V.text, V.list, V.keys], .inl (by decide)⟩
    by_cases h_2 : k = 2
    · subst h_2
      (apply w_sq; apply w_reg; apply w_fld; rfl; apply w_ld; rfl; exact hc_i 1 rfl rfl; apply w_done0; apply w_block; apply w_sq; apply w_sq; apply w_reg; apply w_eql; rfl; rfl; apply w_mvb; rfl; apply w_done0; refine w_ifdF rfl (by omega) ?_; apply w_sq; apply w_reg; apply w_eql; rfl; rfl; apply w_mvb; rfl; apply w_done0; refine w_ifdF rfl (by omega) ?_; apply w_reg; apply w_eql; rfl; rfl; apply w_mvb; rfl; apply w_done0; refine w_ifdT rfl (by omega) ?_; apply w_skip)
      exact ⟨rfl, ⟨rfl, rfl, trivial⟩, 0, 0, [], none, 0, 0, none, 0, 0, rfl, by simp [bareB, V.kind, V.m, V.e, V.text, V.list, V.keys], .inl (by decide)⟩
    by_cases h_3 : k = 3
    · subst h_3
      (apply w_sq; apply w_reg; apply w_fld; rfl; apply w_ld; rfl; exact hc_i 1 rfl rfl; apply w_done0; apply w_block; apply w_sq; apply w_sq; apply w_reg; apply w_eql; rfl; rfl; apply w_mvb; rfl; apply w_done0; refine w_ifdF rfl (by omega) ?_; apply w_sq; apply w_reg; apply w_eql; rfl; rfl; apply w_mvb; rfl; apply w_done0; refine w_ifdF rfl (by omega) ?_; apply w_reg; apply w_eql; rfl; rfl; apply w_mvb; rfl; apply w_done0; refine w_ifdF rfl (by omega) ?_; apply w_sq; apply w_reg; apply w_eql; rfl; rfl; apply w_mvb; rfl; apply w_done0; refine w_ifdT rfl (by omega) ?_; apply w_reg; apply w_fld; rfl; apply w_ldp 1; rfl; rfl; rfl; apply w_fld; rfl)
      refine w_stE 0 [.int .i64 3, .int .i64 m, .int .i64 e, strV [], .slice none 0 0, .slice none 0 0] rfl rfl rfl rfl (Nat.le_of_ble_eq_true rfl) rfl rfl ?_
      (apply w_done0)
      exact ⟨rfl, ⟨rfl, rfl, trivial⟩, m, e, [], none, 0, 0, none, 0, 0, rfl, by simp [bareB, V.kind, V.m, V.e, V.text, V.list, V.keys], .inl (by decide)⟩
    by_cases h_4 : k = 4
    · subst h_4
      (apply w_sq; apply w_reg; apply w_fld; rfl; apply w_ld; rfl; exact hc_i 1 rfl rfl; apply w_done0; apply w_block; apply w_sq; apply w_sq; apply w_reg; apply w_eql; rfl; rfl; apply w_mvb; rfl; apply w_done0; refine w_ifdF rfl (by omega) ?_; apply w_sq; apply w_reg; apply w_eql; rfl; rfl; apply w_mvb; rfl; apply w_done0; refine w_ifdF rfl (by omega) ?_; apply w_reg; apply w_eql; rfl; rfl; apply w_mvb; rfl; apply w_done0; refine w_ifdF rfl (by omega) ?_; apply w_sq; apply w_reg; apply w_eql; rfl; rfl; apply w_mvb; rfl; apply w_done0; refine w_ifdF rfl (by omega) ?_; apply w_sq; apply w_reg; apply w_eql; rfl; rfl; apply w_mvb; rfl; apply w_done0; refine w_ifdT rfl (by omega) ?_; apply w_reg; apply w_fld; rfl; apply w_ld; rfl; exact hc_i 1 rfl rfl; apply w_fld; rfl)
      refine w_stE 0 [.int .i64 4, .int .i64 0, .int .i64 0, strV t, .slice none 0 0, .slice none 0 0] rfl rfl rfl rfl (Nat.le_of_ble_eq_true rfl) rfl rfl ?_
      (apply w_done0)
      exact ⟨rfl, ⟨rfl, rfl, trivial⟩, 0, 0, t, none, 0, 0, none, 0, 0, rfl, by simp [bareB, V.kind, V.m, V.e, V.text, V.list, V.keys], .inl (by decide)⟩
    by_cases h_5 : k = 5
    · subst h_5
      (apply w_sq; apply w_reg; apply w_fld; rfl; apply w_ld; rfl; exact hc_i 1 rfl rfl; apply w_done0; apply w_block; apply w_sq; apply w_sq; apply w_reg; apply w_eql; rfl; rfl; apply w_mvb; rfl; apply w_done0; refine w_ifdF rfl (by omega) ?_; apply w_sq; apply w_reg; apply w_eql; rfl; rfl; apply w_mvb; rfl; apply w_done0; refine w_ifdF rfl (by omega) ?_; apply w_reg; apply w_eql; rfl; rfl; apply w_mvb; rfl; apply w_done0; refine w_ifdF rfl (by omega) ?_; apply w_sq; apply w_reg; apply w_eql; rfl; rfl; apply w_mvb; rfl; apply w_done0; refine w_ifdF rfl (by omega) ?_; apply w_sq; apply w_reg; apply w_eql; rfl; rfl; apply w_mvb; rfl; apply w_done0; refine w_ifdF rfl (by omega) ?_; apply w_sq; apply w_reg; apply w_eql; rfl; rfl; apply w_mvb; rfl; apply w_done0; refine w_ifdT rfl (by omega) ?_; apply w_reg; apply w_fld; rfl; apply w_ld; rfl; exact hc_i 1 rfl rfl; apply w_fld; rfl)
      refine w_stE 0 [.int .i64 5, .int .i64 0, .int .i64 0, strV [], .slice la l.length lc, .slice none 0 0] rfl rfl rfl rfl (Nat.le_of_ble_eq_true rfl) rfl rfl ?_
      (apply w_done0)
      exact ⟨rfl, ⟨rfl, rfl, trivial⟩, 0, 0, [], la, l.length, lc, none, 0, 0, rfl, by simp [bareB, V.kind, V.m, V.e, V.text, V.list, V.keys], .inl (by decide)⟩
    obtain rfl : k = 6 := by omega
    (apply w_sq; apply w_reg; apply w_fld; rfl; apply w_ld; rfl; exact hc_i 1 rfl rfl; apply w_done0; apply w_block; apply w_sq; apply w_sq; apply w_reg; apply w_eql; rfl; rfl; apply w_mvb; rfl; apply w_done0; refine w_ifdF rfl (by omega) ?_; apply w_sq; apply w_reg; apply w_eql; rfl; rfl; apply w_mvb; rfl; apply w_done0; refine w_ifdF rfl (by omega) ?_; apply w_reg; apply w_eql; rfl; rfl; apply w_mvb; rfl; apply w_done0; refine w_ifdF rfl (by omega) ?_; apply w_sq; apply w_reg; apply w_eql; rfl; rfl; apply w_mvb; rfl; apply w_done0; refine w_ifdF rfl (by omega) ?_; apply w_sq; apply w_reg; apply w_eql; rfl; rfl; apply w_mvb; rfl; apply w_done0; refine w_ifdF rfl (by omega) ?_; apply w_sq; apply w_reg; apply w_eql; rfl; rfl; apply w_mvb; rfl; apply w_done0; refine w_ifdF rfl (by omega) ?_; apply w_sq; apply w_reg; apply w_eql; rfl; rfl; apply w_mvb; rfl; apply w_done0; refine w_ifdT rfl (by omega) ?_; apply w_sq; apply w_reg; apply w_fld; rfl; apply w_ld; rfl; exact hc_i 1 rfl rfl; apply w_fld; rfl)
    refine w_stE 0 [.int .i64 6, .int .i64 0, .int .i64 0, strV [], .slice la l.length lc, .slice none 0 0] rfl rfl rfl rfl (Nat.le_of_ble_eq_true rfl) rfl rfl ?_
    (apply w_done0; apply w_sq; apply w_reg; apply w_fld; rfl; apply w_ld; rfl; exact hc_i 1 rfl rfl; apply w_fld; rfl)
    refine w_stE 0 [.int .i64 6, .int .i64 0, .int .i64 0, strV [], .slice la l.length lc, .slice ka ks.length kc] rfl rfl rfl rfl (Nat.le_of_ble_eq_true rfl) rfl rfl ?_
    by_cases h7 : (ks.length : Int) ≠ l.length
    · (apply w_done0; apply w_sq; apply w_reg; apply w_fld; rfl; apply w_ld; rfl; exact hc_i 1 rfl rfl; apply w_len; rfl; apply w_fld; rfl; apply w_ld; rfl; exact hc_i 1 rfl rfl; apply w_len; rfl; apply w_neq; rfl; rfl; apply w_done0; refine w_ifdT rfl (by omega) ?_; apply w_sq; apply w_reg; apply w_mvb; rfl; apply w_done0; apply w_ret)
      apply finQb; rfl
      have h8 : ks.length ≠ l.length := by omega
      simp [oneB, h8]
    · (apply w_done0; apply w_sq; apply w_reg; apply w_fld; rfl; apply w_ld; rfl; exact hc_i 1 rfl rfl; apply w_len; rfl; apply w_fld; rfl; apply w_ld; rfl; exact hc_i 1 rfl rfl; apply w_len; rfl; apply w_neq; rfl; rfl; apply w_done0; refine w_ifdF rfl (by omega) ?_; apply w_skip)
      exact ⟨rfl, ⟨rfl, rfl, trivial⟩, 0, 0, [], la, l.length, lc, ka, ks.length, kc, rfl, by simp [bareB, V.kind, V.m, V.e, V.text, V.list, V.keys], .inr (by omega)⟩
  rintro ρ d' L' ⟨hdd, hsl', pm, pe, pt, pla, pln, plc, pka, pkn, pkc, hL, hbare, h6⟩
  subst hdd; subst hL
  refine gwp_slots _ hsl' ?_
  clear hsl'
  have hrf : rising ks = false → false = oneB (.mk k m e t l ks) := fun h => by simp [oneB, h]
  (apply w_sq; apply w_sq; apply w_reg; apply w_mvi; rfl; apply w_done0; apply w_block)
  refine w_loopN (α := Nat) (fun i => [(1, .pointer (some ⟨b1, 0, none⟩)), (3, .pointer (some ⟨b3, 0, none⟩)), (4, .int .i64 i)])
    (fun _ => [bx b3 T3 [.int .i64 k, .int .i64 pm, .int .i64 pe, strV pt, .slice pla pln plc, .slice pka pkn pkc], bx b1 T1 [.int .i64 k, .int .i64 m, .int .i64 e, strV t, .slice la l.length lc, .slice ka ks.length kc]])
    (fun i => i ≤ ks.length ∧ riseN ks i = true) (fun i => ks.length - i) 0 ⟨rfl, rfl, rfl, trivial⟩ rfl ⟨Nat.zero_le _, rfl⟩ ?_
  rintro i ρ ⟨hi, hr⟩
  by_cases hc : i < ks.length
  · (apply w_sq; apply w_sq; apply w_reg; apply w_mvi; rfl; apply w_fld; rfl; apply w_ld; rfl; exact hc_i 1 rfl rfl; apply w_len; rfl; apply w_lss; rfl; rfl; apply w_done0; refine w_ifdT rfl (by omega) ?_; apply w_skip; apply w_sq; apply w_block; apply w_sq; apply w_drawn; apply w_fld; rfl; apply w_ld; rfl; exact hc_i 1 rfl rfl; apply w_mvi; rfl; refine w_idxR (sz := 1) (R := RStr) (by rfl) (by assumption) (by rfl) rfl (by omega) ?_; rintro _ _ _ _ _ ⟨rfl, _⟩; apply w_ld; rfl; exact hc_ds0 (by assumption) rfl)
    refine w_pure rfl (h1 ht (hsl i hc)) ?_
    cases hu : u8 ks[i] with
    | false =>
      (apply w_not; rfl; apply w_mvb; rfl; apply w_gF; rfl; apply w_gF; rfl; apply w_gF; rfl; apply w_gU; rfl; apply w_gU; rfl; apply w_gU; rfl; apply w_gU; rfl; apply w_gU; rfl; apply w_gU; rfl; apply w_gU; rfl; apply w_gU; rfl; apply w_gU; rfl; apply w_gU; rfl; apply w_gU; rfl; apply w_gU; rfl; apply w_gF; rfl; apply w_pickTb; rfl; rfl; apply w_done; apply w_ifT; rfl; apply w_sq; apply w_reg; apply w_mvb; rfl; apply w_done0; apply w_ret)
      apply finQb; rfl
      exact hrf (riseN_false (rise1_u hc hu) hc)
    | true =>
      by_cases hi0 : i = 0
      · subst hi0
        (apply w_not; rfl; apply w_mvb; rfl; apply w_gT; rfl; apply w_mvi; rfl; apply w_gT; rfl; apply w_gtr; rfl; rfl; apply w_gT; rfl; apply w_mvb; rfl; refine w_gdF rfl (by omega) ?_; apply w_gF; rfl; apply w_gF; rfl; apply w_gF; rfl; apply w_gF; rfl; apply w_gF; rfl; apply w_gF; rfl; apply w_gF; rfl; apply w_gF; rfl; apply w_gF; rfl; apply w_gF; rfl; apply w_gF; rfl; apply w_gF; rfl; apply w_gT; rfl; apply w_pickFb; rfl; rfl; apply w_pickFb; rfl; rfl; apply w_done; apply w_ifF; rfl; apply w_skip; apply w_reg; apply w_mvi; rfl; apply w_add; rfl; rfl; omega; omega; apply w_mvi; rfl; apply w_done0)
        exact ⟨1, by omega, ⟨rfl, rfl, rfl, trivial⟩, rfl, rfl, by omega, by rw [riseN, rise1_z hc, hu]; rfl⟩
      · obtain ⟨j, rfl⟩ : ∃ j, i = j + 1 := ⟨i - 1, by omega⟩
        (apply w_not; rfl; apply w_mvb; rfl; apply w_gT; rfl; apply w_mvi; rfl; apply w_gT; rfl; apply w_gtr; rfl; rfl; apply w_gT; rfl; apply w_mvb; rfl; refine w_gdT rfl (by omega) ?_; apply w_gT; rfl; apply w_fld; rfl; apply w_gT; rfl; apply w_ld; rfl; exact hc_i 1 rfl rfl; apply w_gT; rfl; apply w_mvi; rfl; apply w_gT; rfl; apply w_sub; rfl; rfl; omega; omega; apply w_gT; rfl)
        refine w_idxR (sz := 1) (R := RStr) (m := j) (by rfl) hks' (by rfl) (by omega) (by omega) ?_; rintro _ _ _ _ _ ⟨rfl, _⟩
        cases hb : Op.bytesLess ks[j] ks[j + 1] with
        | false =>
          have hb' : (!Op.bytesLess ks[j] ks[j + 1]) = true := by rw [hb]; rfl
          (apply w_gT; rfl; apply w_ld; rfl; exact hc_ds0 (by assumption) rfl; apply w_gT; rfl; apply w_fld; rfl; apply w_gT; rfl; apply w_ld; rfl; exact hc_i 1 rfl rfl; apply w_gT; rfl; apply w_mvi; rfl; apply w_gT; rfl; refine w_idxR (sz := 1) (R := RStr) (by rfl) (by assumption) (by rfl) rfl (by omega) ?_; rintro _ _ _ _ _ ⟨rfl, _⟩; apply w_gT; rfl; apply w_ld; rfl; exact hc_ds0 (by assumption) rfl; apply w_gT; rfl; apply w_sge; rfl; rfl; apply w_gT; rfl; apply w_pickTb; rfl; rfl; apply w_pickFb; rfl; rfl; apply w_done; apply w_ifbT; rfl; (with_reducible assumption); apply w_sq; apply w_reg; apply w_mvb; rfl; apply w_done0; apply w_ret)
          apply finQb; rfl
          exact hrf (riseN_false (by rw [rise1_s hc, hb, Bool.and_false]) hc)
        | true =>
          have hb' : (!Op.bytesLess ks[j] ks[j + 1]) = false := by rw [hb]; rfl
          (apply w_gT; rfl; apply w_ld; rfl; exact hc_ds0 (by assumption) rfl; apply w_gT; rfl; apply w_fld; rfl; apply w_gT; rfl; apply w_ld; rfl; exact hc_i 1 rfl rfl; apply w_gT; rfl; apply w_mvi; rfl; apply w_gT; rfl; refine w_idxR (sz := 1) (R := RStr) (by rfl) (by assumption) (by rfl) rfl (by omega) ?_; rintro _ _ _ _ _ ⟨rfl, _⟩; apply w_gT; rfl; apply w_ld; rfl; exact hc_ds0 (by assumption) rfl; apply w_gT; rfl; apply w_sge; rfl; rfl; apply w_gT; rfl; apply w_pickTb; rfl; rfl; apply w_pickFb; rfl; rfl; apply w_done; apply w_ifbF; rfl; (with_reducible assumption); apply w_skip; apply w_reg; apply w_mvi; rfl; apply w_add; rfl; rfl; omega; omega; apply w_mvi; rfl; apply w_done0)
          exact ⟨j + 2, by omega, ⟨rfl, rfl, int_eq (by omega), trivial⟩, rfl, rfl, by omega, by rw [riseN, hr, rise1_s hc, hu, hb]; rfl⟩
  obtain rfl : i = ks.length := by omega
  have hr' : rising ks = true := hr
  have h6' : (!decide (k = 6) || decide (ks.length = l.length)) = true := by simpa using h6
  cases hA : (false ^^ (decide (pm = m) && decide (pe = e))) with
  | false =>
    (apply w_sq; apply w_sq; apply w_reg; apply w_mvi; rfl; apply w_fld; rfl; apply w_ld; rfl; exact hc_i 1 rfl rfl; apply w_len; rfl; apply w_lss; rfl; rfl; apply w_done0; refine w_ifdF rfl (by omega) ?_; apply w_exit; apply w_sq; apply w_reg; apply w_fld; rfl; apply w_ldp 0; rfl; rfl; rfl; apply w_fld; rfl; apply w_ldp 1; rfl; rfl; rfl; apply w_eqc2; rfl; rfl; apply w_mvb; rfl; apply w_gbF; rfl; (with_reducible assumption); apply w_gF; rfl; apply w_gF; rfl; apply w_gF; rfl; apply w_gF; rfl; apply w_gF; rfl; apply w_pickFb; rfl; rfl; apply w_mvb; rfl; apply w_gF; rfl; apply w_gF; rfl; apply w_gF; rfl; apply w_gF; rfl; apply w_gF; rfl; apply w_gF; rfl; apply w_gF; rfl; apply w_pickFb; rfl; rfl; apply w_mvb; rfl; apply w_gF; rfl; apply w_gF; rfl; apply w_gF; rfl; apply w_gF; rfl; apply w_gF; rfl; apply w_gF; rfl; apply w_gF; rfl; apply w_pickFb; rfl; rfl; apply w_mvb; rfl; apply w_gF; rfl; apply w_gF; rfl; apply w_gF; rfl; apply w_pickFb; rfl; rfl; apply w_mvb; rfl; apply w_gF; rfl; apply w_gF; rfl; apply w_gF; rfl; apply w_pickFb; rfl; rfl; apply w_mvb; rfl; apply w_done0; apply w_ret)
    apply finQb; rfl
    have : ¬ (m = pm ∧ e = pe) := fun ⟨h, h'⟩ => by rw [h, h'] at hA; simp at hA
    simp [oneB, hbare, this]
  | true =>
  have hA' : m = pm ∧ e = pe := by simp at hA; exact ⟨hA.1.symm, hA.2.symm⟩
  by_cases hB : pt = t
  · by_cases hC : (pln : Int) = l.length
    · by_cases hD : (pkn : Int) = ks.length
      · (apply w_sq; apply w_sq; apply w_reg; apply w_mvi; rfl; apply w_fld; rfl; apply w_ld; rfl; exact hc_i 1 rfl rfl; apply w_len; rfl; apply w_lss; rfl; rfl; apply w_done0; refine w_ifdF rfl (by omega) ?_; apply w_exit; apply w_sq; apply w_reg; apply w_fld; rfl; apply w_ldp 0; rfl; rfl; rfl; apply w_fld; rfl; apply w_ldp 1; rfl; rfl; rfl; apply w_eqc2; rfl; rfl; apply w_mvb; rfl; apply w_gbT; rfl; (with_reducible assumption); apply w_gT; rfl; apply w_fld; rfl; apply w_gT; rfl; apply w_ld; rfl; exact hc_i 0 rfl rfl; apply w_gT; rfl; apply w_fld; rfl; apply w_gT; rfl; apply w_ld; rfl; exact hc_i 1 rfl rfl; apply w_gT; rfl; apply w_seq; rfl; rfl; apply w_pickTb; rfl; rfl; apply w_mvb; rfl; refine w_gdT rfl (by omega) ?_; apply w_gT; rfl; apply w_fld; rfl; apply w_gT; rfl; apply w_ld; rfl; exact hc_i 0 rfl rfl; apply w_gT; rfl; apply w_len; rfl; apply w_gT; rfl; apply w_fld; rfl; apply w_gT; rfl; apply w_ld; rfl; exact hc_i 1 rfl rfl; apply w_gT; rfl; apply w_len; rfl; apply w_gT; rfl; apply w_eql; rfl; rfl; apply w_pickTb; rfl; rfl; apply w_mvb; rfl; refine w_gdT rfl (by omega) ?_; apply w_gT; rfl; apply w_fld; rfl; apply w_gT; rfl; apply w_ld; rfl; exact hc_i 0 rfl rfl; apply w_gT; rfl; apply w_len; rfl; apply w_gT; rfl; apply w_fld; rfl; apply w_gT; rfl; apply w_ld; rfl; exact hc_i 1 rfl rfl; apply w_gT; rfl; apply w_len; rfl; apply w_gT; rfl; apply w_eql; rfl; rfl; apply w_pickTb; rfl; rfl; apply w_mvb; rfl; refine w_gdT rfl (by omega) ?_; apply w_gT; rfl; apply w_fld; rfl; apply w_gT; rfl; apply w_ldp 1; rfl; rfl; rfl; apply w_gT; rfl)
        refine w_pure rfl (h2 ht im ie) ?_
        have hbt : bareB (.mk k m e t l ks) = true := by rw [hbare]; simp [hA', hB, show l.length = pln by omega, show ks.length = pkn by omega]
        cases hN : numRight m e with
        | false =>
          (apply w_pickTb; rfl; rfl; apply w_mvb; rfl; apply w_gF; rfl; apply w_gF; rfl; apply w_gF; rfl; apply w_pickFb; rfl; rfl; apply w_mvb; rfl; apply w_done0; apply w_ret)
          apply finQb; rfl
          simp [oneB, hN]
        | true =>
          (apply w_pickTb; rfl; rfl; apply w_mvb; rfl; apply w_gT; rfl; apply w_fld; rfl; apply w_gT; rfl; apply w_ld; rfl; exact hc_i 1 rfl rfl; apply w_gT; rfl)
          refine w_pure rfl (h1 ht it) ?_
          cases hu : u8 t with
          | false =>
            (apply w_pickTb; rfl; rfl; apply w_mvb; rfl; apply w_done0; apply w_ret)
            apply finQb; rfl
            simp [oneB, hu]
          | true =>
            (apply w_pickTb; rfl; rfl; apply w_mvb; rfl; apply w_done0; apply w_ret)
            apply finQb; rfl
            simp only [oneB, V.kind, V.m, V.e, V.text, V.list, V.keys, hbt, hN, hu, hr', Bool.and_true, Bool.true_and]
            simpa using h6'
      · (apply w_sq; apply w_sq; apply w_reg; apply w_mvi; rfl; apply w_fld; rfl; apply w_ld; rfl; exact hc_i 1 rfl rfl; apply w_len; rfl; apply w_lss; rfl; rfl; apply w_done0; refine w_ifdF rfl (by omega) ?_; apply w_exit; apply w_sq; apply w_reg; apply w_fld; rfl; apply w_ldp 0; rfl; rfl; rfl; apply w_fld; rfl; apply w_ldp 1; rfl; rfl; rfl; apply w_eqc2; rfl; rfl; apply w_mvb; rfl; apply w_gbT; rfl; (with_reducible assumption); apply w_gT; rfl; apply w_fld; rfl; apply w_gT; rfl; apply w_ld; rfl; exact hc_i 0 rfl rfl; apply w_gT; rfl; apply w_fld; rfl; apply w_gT; rfl; apply w_ld; rfl; exact hc_i 1 rfl rfl; apply w_gT; rfl; apply w_seq; rfl; rfl; apply w_pickTb; rfl; rfl; apply w_mvb; rfl; refine w_gdT rfl (by omega) ?_; apply w_gT; rfl; apply w_fld; rfl; apply w_gT; rfl; apply w_ld; rfl; exact hc_i 0 rfl rfl; apply w_gT; rfl; apply w_len; rfl; apply w_gT; rfl; apply w_fld; rfl; apply w_gT; rfl; apply w_ld; rfl; exact hc_i 1 rfl rfl; apply w_gT; rfl; apply w_len; rfl; apply w_gT; rfl; apply w_eql; rfl; rfl; apply w_pickTb; rfl; rfl; apply w_mvb; rfl; refine w_gdT rfl (by omega) ?_; apply w_gT; rfl; apply w_fld; rfl; apply w_gT; rfl; apply w_ld; rfl; exact hc_i 0 rfl rfl; apply w_gT; rfl; apply w_len; rfl; apply w_gT; rfl; apply w_fld; rfl; apply w_gT; rfl; apply w_ld; rfl; exact hc_i 1 rfl rfl; apply w_gT; rfl; apply w_len; rfl; apply w_gT; rfl; apply w_eql; rfl; rfl; apply w_pickTb; rfl; rfl; apply w_mvb; rfl; refine w_gdF rfl (by omega) ?_; apply w_gF; rfl; apply w_gF; rfl; apply w_gF; rfl; apply w_pickFb; rfl; rfl; apply w_mvb; rfl; apply w_gF; rfl; apply w_gF; rfl; apply w_gF; rfl; apply w_pickFb; rfl; rfl; apply w_mvb; rfl; apply w_done0; apply w_ret)
        apply finQb; rfl
        have : ¬ ks.length = pkn := by omega
        simp [oneB, hbare, this]
    · (apply w_sq; apply w_sq; apply w_reg; apply w_mvi; rfl; apply w_fld; rfl; apply w_ld; rfl; exact hc_i 1 rfl rfl; apply w_len; rfl; apply w_lss; rfl; rfl; apply w_done0; refine w_ifdF rfl (by omega) ?_; apply w_exit; apply w_sq; apply w_reg; apply w_fld; rfl; apply w_ldp 0; rfl; rfl; rfl; apply w_fld; rfl; apply w_ldp 1; rfl; rfl; rfl; apply w_eqc2; rfl; rfl; apply w_mvb; rfl; apply w_gbT; rfl; (with_reducible assumption); apply w_gT; rfl; apply w_fld; rfl; apply w_gT; rfl; apply w_ld; rfl; exact hc_i 0 rfl rfl; apply w_gT; rfl; apply w_fld; rfl; apply w_gT; rfl; apply w_ld; rfl; exact hc_i 1 rfl rfl; apply w_gT; rfl; apply w_seq; rfl; rfl; apply w_pickTb; rfl; rfl; apply w_mvb; rfl; refine w_gdT rfl (by omega) ?_; apply w_gT; rfl; apply w_fld; rfl; apply w_gT; rfl; apply w_ld; rfl; exact hc_i 0 rfl rfl; apply w_gT; rfl; apply w_len; rfl; apply w_gT; rfl; apply w_fld; rfl; apply w_gT; rfl; apply w_ld; rfl; exact hc_i 1 rfl rfl; apply w_gT; rfl; apply w_len; rfl; apply w_gT; rfl; apply w_eql; rfl; rfl; apply w_pickTb; rfl; rfl; apply w_mvb; rfl; refine w_gdF rfl (by omega) ?_; apply w_gF; rfl; apply w_gF; rfl; apply w_gF; rfl; apply w_gF; rfl; apply w_gF; rfl; apply w_gF; rfl; apply w_gF; rfl; apply w_pickFb; rfl; rfl; apply w_mvb; rfl; apply w_gF; rfl; apply w_gF; rfl; apply w_gF; rfl; apply w_pickFb; rfl; rfl; apply w_mvb; rfl; apply w_gF; rfl; apply w_gF; rfl; apply w_gF; rfl; apply w_pickFb; rfl; rfl; apply w_mvb; rfl; apply w_done0; apply w_ret)
      apply finQb; rfl
      have : ¬ l.length = pln := by omega
      simp [oneB, hbare, this]
  · (apply w_sq; apply w_sq; apply w_reg; apply w_mvi; rfl; apply w_fld; rfl; apply w_ld; rfl; exact hc_i 1 rfl rfl; apply w_len; rfl; apply w_lss; rfl; rfl; apply w_done0; refine w_ifdF rfl (by omega) ?_; apply w_exit; apply w_sq; apply w_reg; apply w_fld; rfl; apply w_ldp 0; rfl; rfl; rfl; apply w_fld; rfl; apply w_ldp 1; rfl; rfl; rfl; apply w_eqc2; rfl; rfl; apply w_mvb; rfl; apply w_gbT; rfl; (with_reducible assumption); apply w_gT; rfl; apply w_fld; rfl; apply w_gT; rfl; apply w_ld; rfl; exact hc_i 0 rfl rfl; apply w_gT; rfl; apply w_fld; rfl; apply w_gT; rfl; apply w_ld; rfl; exact hc_i 1 rfl rfl; apply w_gT; rfl; apply w_seq; rfl; rfl; apply w_pickTb; rfl; rfl; apply w_mvb; rfl; refine w_gdF rfl (by omega) ?_; apply w_gF; rfl; apply w_gF; rfl; apply w_gF; rfl; apply w_gF; rfl; apply w_gF; rfl; apply w_gF; rfl; apply w_gF; rfl; apply w_pickFb; rfl; rfl; apply w_mvb; rfl; apply w_gF; rfl; apply w_gF; rfl; apply w_gF; rfl; apply w_gF; rfl; apply w_gF; rfl; apply w_gF; rfl; apply w_gF; rfl; apply w_pickFb; rfl; rfl; apply w_mvb; rfl; apply w_gF; rfl; apply w_gF; rfl; apply w_gF; rfl; apply w_pickFb; rfl; rfl; apply w_mvb; rfl; apply w_gF; rfl; apply w_gF; rfl; apply w_gF; rfl; apply w_pickFb; rfl; rfl; apply w_mvb; rfl; apply w_done0; apply w_ret)
    apply finQb; rfl
    have : ¬ t = pt := fun h => hB h.symm
    simp [oneB, hbare, this]
end Go.Gk.Val
end

section
namespace Go.Gk
open Go
section
variable {P : Program} {pan : List PanicEntry → Post} {Qn : Env → Post} {Ls L : List PHeap} {ρ : Env} {d : PHeap} {s : GS} {t : Nat} {tk : Bool}
theorem w_bvZ (h : gws P pan Qn s Ls (upd ρ t (.agg [.int .i64 0, .int .i64 0, .int .i64 0, strV [], .slice none 0 0, .slice none 0 0].toArray)) d L) :
    gws P pan Qn (.op tk ⟨some t, none, .bld [(0, 1), (1, 2), (3, 1), (4, 1), (5, 1)] [.int .i64 0, .int .i64 0, .int .i64 0, strV [], .slice none 0 0, .slice none 0 0] []⟩ s) Ls ρ d L :=
  w_bld (cs := [.int .i64 0, .int .i64 0, .int .i64 0, strV [], .slice none 0 0, .slice none 0 0]) rfl h
theorem w_bvK {x : Operand} {k : IntKind} {a : Int} (ex : ev ρ x = .int k a) (h : gws P pan Qn s Ls (upd ρ t (.agg [.int k a, .int .i64 0, .int .i64 0, strV [], .slice none 0 0, .slice none 0 0].toArray)) d L) :
    gws P pan Qn (.op tk ⟨some t, none, .bld [(0, 1), (1, 2), (3, 1), (4, 1), (5, 1)] [.int .i64 0, .int .i64 0, .int .i64 0, strV [], .slice none 0 0, .slice none 0 0] [(0, x)]⟩ s) Ls ρ d L :=
  w_bld (cs := [.int k a, .int .i64 0, .int .i64 0, strV [], .slice none 0 0, .slice none 0 0]) (by simp [Instr.fill, ex, Value.cells, strV]) h
theorem w_bvKL {x y : Operand} {k : IntKind} {a : Int} {b : Option Addr} {n c : Nat} (ex : ev ρ x = .int k a) (ey : ev ρ y = .slice b n c) (h : gws P pan Qn s Ls (upd ρ t (.agg [.int k a, .int .i64 0, .int .i64 0, strV [], .slice b n c, .slice none 0 0].toArray)) d L) :
    gws P pan Qn (.op tk ⟨some t, none, .bld [(0, 1), (1, 2), (3, 1), (4, 1), (5, 1)] [.int .i64 0, .int .i64 0, .int .i64 0, strV [], .slice none 0 0, .slice none 0 0] [(0, x), (3, y)]⟩ s) Ls ρ d L :=
  w_bld (cs := [.int k a, .int .i64 0, .int .i64 0, strV [], .slice b n c, .slice none 0 0]) (by simp [Instr.fill, ex, ey, Value.cells, strV]) h
theorem w_bvL {y : Operand} {b : Option Addr} {n c : Nat} (ey : ev ρ y = .slice b n c) (h : gws P pan Qn s Ls (upd ρ t (.agg [.int .i64 0, .int .i64 0, .int .i64 0, strV [], .slice b n c, .slice none 0 0].toArray)) d L) :
    gws P pan Qn (.op tk ⟨some t, none, .bld [(0, 1), (1, 2), (3, 1), (4, 1), (5, 1)] [.int .i64 0, .int .i64 0, .int .i64 0, strV [], .slice none 0 0, .slice none 0 0] [(3, y)]⟩ s) Ls ρ d L :=
  w_bld (cs := [.int .i64 0, .int .i64 0, .int .i64 0, strV [], .slice b n c, .slice none 0 0]) (by simp [Instr.fill, ey, Value.cells, strV]) h
theorem w_bvKT {x y : Operand} {k : IntKind} {a : Int} {l : List UInt8} (ex : ev ρ x = .int k a) (ey : ev ρ y = strV l) (h : gws P pan Qn s Ls (upd ρ t (.agg [.int k a, .int .i64 0, .int .i64 0, strV l, .slice none 0 0, .slice none 0 0].toArray)) d L) :
    gws P pan Qn (.op tk ⟨some t, none, .bld [(0, 1), (1, 2), (3, 1), (4, 1), (5, 1)] [.int .i64 0, .int .i64 0, .int .i64 0, strV [], .slice none 0 0, .slice none 0 0] [(0, x), (2, y)]⟩ s) Ls ρ d L :=
  w_bld (cs := [.int k a, .int .i64 0, .int .i64 0, strV l, .slice none 0 0, .slice none 0 0]) (by simp [Instr.fill, ex, ey, Value.cells, strV]) h
theorem w_bvM {x y z : Operand} {k : IntKind} {a : Int} {b b' : Option Addr} {n c n' c' : Nat} (ex : ev ρ x = .int k a) (ey : ev ρ y = .slice b' n' c') (ez : ev ρ z = .slice b n c)
    (h : gws P pan Qn s Ls (upd ρ t (.agg [.int k a, .int .i64 0, .int .i64 0, strV [], .slice b n c, .slice b' n' c'].toArray)) d L) :
    gws P pan Qn (.op tk ⟨some t, none, .bld [(0, 1), (1, 2), (3, 1), (4, 1), (5, 1)] [.int .i64 0, .int .i64 0, .int .i64 0, strV [], .slice none 0 0, .slice none 0 0] [(0, x), (4, y), (3, z)]⟩ s) Ls ρ d L :=
  w_bld (cs := [.int k a, .int .i64 0, .int .i64 0, strV [], .slice b n c, .slice b' n' c']) (by simp [Instr.fill, ex, ey, ez, Value.cells, strV]) h
theorem w_bvC {x y z u : Operand} {k k1 k2 : IntKind} {a m e : Int} {l : List UInt8} {b : Option Addr} {n c : Nat} (ex : ev ρ x = .int k a) (ey : ev ρ y = .agg [.int k1 m, .int k2 e].toArray) (ez : ev ρ z = strV l) (eu : ev ρ u = .slice b n c)
    (h : gws P pan Qn s Ls (upd ρ t (.agg [.int k a, .int k1 m, .int k2 e, strV l, .slice none 0 0, .slice b n c].toArray)) d L) :
    gws P pan Qn (.op tk ⟨some t, none, .bld [(0, 1), (1, 2), (3, 1), (4, 1), (5, 1)] [.int .i64 0, .int .i64 0, .int .i64 0, strV [], .slice none 0 0, .slice none 0 0] [(0, x), (1, y), (2, z), (4, u)]⟩ s) Ls ρ d L :=
  w_bld (cs := [.int k a, .int k1 m, .int k2 e, strV l, .slice none 0 0, .slice b n c]) (by simp [Instr.fill, ex, ey, ez, eu, Value.cells, strV]) h
end
end Go.Gk
end
