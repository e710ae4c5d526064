/-
  'thimblelaw05.KeyOrders' returns true for all two values, and leaves them as they are; the tables that it reads are tied to the program's text. No condition.
-/
import Derived.Test.YtjhoaohpfbgfpaaDoorRows
import Derived.Test.YtjhoaohpfbgfpaaDoorCards
import Derived.Test.YtjhoaohpfbgfpaaDoorTie
import Derived.Test.YtjhoaohpfbgfpaaDoorC5
import Derived.Test.YtjhoaohpfbgfpaaDoorPkG
import Derived.SevenTiedAt
namespace Go.Proofs.YtjhoaohpfbgfpaaDoor.keyOrders
open Go Go.Gk Go.Gk.Val Go.ChangeShapes Go.WideShapes Go.ChangeAt Go.RowKit
theorem h_thimbleref03_Bulk : BulkOk Tryd.prog 24 := bulk_ok (f := 24) (hd := by kernel_rfl)
theorem h_thimblelaw05_great : Great4Ok Tryd.prog 30 := great5_ok (f := 30) (f1 := 24) (hd := by kernel_rfl) (h1 := h_thimbleref03_Bulk)
theorem h_cmp_isNaN_int : NanIOk Tryd.prog 75 := nani_ok (f := 75) (hd := by kernel_rfl)
theorem h_cmp_Compare_int : CmpIOk Tryd.prog 47 := cmpint_ok (f := 47) (f1 := 75) (hd := by kernel_rfl) (h1 := h_cmp_isNaN_int)
theorem h_num_sign : SignOk Tryd.prog 76 := sign_ok (f := 76) (hd := by kernel_rfl)
theorem h_num_compare : CmpIOk Tryd.prog 77 := cmpi_num_compare (f := 77) (hd := by kernel_rfl)
theorem h_internal_bytealg_CompareString : CmpSOk Tryd.prog 80 := cmps_ok (f := 80) (hd := by kernel_rfl)
theorem h_strings_Compare : CmpSOk Tryd.prog 49 := scmp_ok (f := 49) (f1 := 80) (hd := by kernel_rfl) (h1 := h_internal_bytealg_CompareString)
theorem h_num_Cmp : NumCmpOk T Tryd.prog 48 := ncmp_ok (f := 48) (f1 := 72) (f2 := 76) (f3 := 77) (f4 := 79) (f5 := 78) (f6 := 49) (hd := by kernel_rfl) (h1 := h_num_Right) (h2 := h_num_sign) (h3 := h_num_compare) (h4 := h_num_size) (h5 := h_strconv_FormatUint) (h6 := h_strings_Compare)
theorem h_slices_CompareFunc_string_string_string_string : CmpFuncSOk Tryd.prog 81 := cmpfuncs_ok (f := 81) (hd := by kernel_rfl)
theorem h_order_rows_string : CmpFuncSOk Tryd.prog 50 := rowss_ok (f := 50) (f1 := 81) (hd := by kernel_rfl) (h1 := h_slices_CompareFunc_string_string_string_string)
theorem h_slices_CompareFunc_api_Value_api_Value_api_Value_api_Value : CmpFuncVOk Tryd.prog 82 := cmpfuncv_ok (f := 82) (hd := by kernel_rfl)
theorem h_order_rows_api_Value : CmpFuncVOk Tryd.prog 51 := rowsv_ok (f := 51) (f1 := 82) (hd := by kernel_rfl) (h1 := h_slices_CompareFunc_api_Value_api_Value_api_Value_api_Value)
theorem h_order_compare : CmpVOk T Tryd.prog 32 := ocompare_ok (f := 32) (f1 := 47) (f2 := 48) (f3 := 49) (f4 := 50) (f5 := 51) (hd := by kernel_rfl) (h1 := h_cmp_Compare_int) (h2 := h_num_Cmp) (h3 := h_strings_Compare) (h4 := h_order_rows_string) (h5 := h_order_rows_api_Value)
theorem h_order_Cmp : CmpTopOk T Tryd.prog 15 := ocmp_ok (f := 15) (f1 := 31) (f2 := 32) (hd := by kernel_rfl) (h1 := h_value_Right) (h2 := h_order_compare)
theorem own : ownKnob Tryd.prog.godebug = none := by kernel_rfl
theorem laidOut : laidOutB Tryd.prog = true := by kernel_rfl

set_option maxRecDepth 100000 in
theorem contract (H : Type) (enc : TypeId × Value → H) (W : World) (base : Nat) (args : Array Value) (ds gs : List (DataW H)) (before : List MemPlace)
    (hval : ∀ (j : Nat) t v, Tryd.f12.params[j]? = some t → args[j]? = some v → Value.okWide Tryd.prog W .any base t v)
    (hW : DataW.Whole enc Tryd.prog Tryd.f12.params.toList Rows.keyOrdersSpec.vars false W args.toList ds gs before)
    (hwt : (DataW.weightsEach Tryd.prog (Tryd.f12.params.toList ++ Rows.keyOrdersSpec.plain.varTypes Tryd.prog) (ds ++ gs)).all (· ≤ reachBytes) = true) (hL : laidMet Tryd.prog Rows.keyOrdersRow.laid W) :
    Calls Tryd.prog 12 args W fun e W' => ∃ v, e = .returned v ∧ Rows.keyOrdersSpec.post enc Tryd.prog Tryd.f12 false true false false W args v W' := by
  have hW' := hW
  obtain ⟨p, q, hA0, hV, rfl, hfz, hnd⟩ := hW
  have hA : DataW.TrodAll enc Tryd.prog W 0 (fun _ => true) true Tryd.f12.params.toList args.toList ds p := hA0
  rw [Tryd.params12] at hA hval hwt
  obtain ⟨v0, vs0, d0, ds0, p0, q0, hargs, rfl, rfl, h0, r0⟩ := trodAll_cons hA
  obtain ⟨v1, vs1, d1, ds1, p1, q1, rfl, rfl, rfl, h1, r1⟩ := trodAll_cons r0
  obtain ⟨rfl, rfl, rfl⟩ := trodAll_nil r1
  obtain rfl : args = #[v0, v1] := by cases args; simp_all
  obtain ⟨rfl, rfl⟩ := trodVars_none hV
  obtain ⟨cs0, x0, rfl, ha⟩ := arg_struct Tryd.underlying27 rdVal (hval 0 27 v0 rfl rfl) h0 (arg_weights (j := 0) hwt rfl rfl)
  obtain ⟨cs1, x1, rfl, hb⟩ := arg_struct Tryd.underlying27 rdVal (hval 1 27 v1 rfl rfl) h1 (arg_weights (j := 1) hwt rfl rfl)
  have ht : T (hw W) := tabs_of (.tail _ (.tail _ (.tail _ (.tail _ (.tail _ (.head _)))))) (.tail _ (.tail _ (.tail _ (.head _)))) (.tail _ (.tail _ (.tail _ (.tail _ (.head _))))) (.tail _ (.tail _ (.head _))) hL
  exact calls_true laidOut (by kernel_rfl) hW' rfl rfl (by kernel_rfl) Tryd.underlying4 ((keyOrders_ok (f := 12) (f1 := 25) (f2 := 30) (f3 := 26) (f4 := 15) (hTm := fun h hl => hTm hl h) (hd := by kernel_rfl) (h1 := h_thimblelaw05_works) (h2 := h_thimblelaw05_great) (h3 := h_key_Bytes) (h4 := h_order_Cmp) (d := hw W) (ht := ht) (ha := ha) (hb := hb)).yes)

set_option maxRecDepth 100000 in
theorem lifted (os : Os) (started : os.Started) (H : Type) (enc : TypeId × Value → H) :
    ReturnsInHanded {} Tryd.checked os 12 .any (fun w args => (Rows.keyOrdersSpec.pre enc Tryd.prog Tryd.f12 [] false w args ∧ laidMetH Tryd.prog Rows.keyOrdersRow.laid w) ∧ sizedMet enc Tryd.prog Tryd.f12 (OpenSpec.ofChange Rows.keyOrdersSpec) false w args) (Rows.keyOrdersSpec.post enc Tryd.prog Tryd.f12 false true false false) := by
  refine returnsInHanded_of_change_and (C := Tryd.checked) (X := fun w _ => laidMetH Tryd.prog Rows.keyOrdersRow.laid w) (fun _ _ _ hh h => h.of_heap hh) own started (by kernel_rfl) Tryd.func12
    (ChangeSpec.witness_shaped (enc := enc) (C := Tryd.checked) (os := os) (X := fun w _ => laidMetH Tryd.prog Rows.keyOrdersRow.laid w) false (World.laidAll Tryd.prog os Rows.keyOrdersRow.laid) #[.agg #[.int .i64 0, .int .i64 0, .int .i64 0, .string ⟨#[]⟩, .slice none 0 0, .slice none 0 0], .agg #[.int .i64 0, .int .i64 0, .int .i64 0, .string ⟨#[]⟩, .slice none 0 0, .slice none 0 0]] 8 (World.laidAll_os _ _ _)
      (World.shaped_of_ZipB (by kernel_rfl) (by kernel_rfl)) (by kernel_rfl) (by kernel_rfl) (by kernel_rfl)
      (by rw [MakeChecks.laidMetH_plain _ _ _ (by kernel_rfl)]; exact laidMet_laidAll _ (by kernel_rfl) (by kernel_rfl))) ?_
  intro W base args ds gs before hval hW _ hwt hL _
  rw [MakeChecks.laidMetH_plain _ _ _ (by kernel_rfl)] at hL
  exact contract H enc W base args ds gs before hval hW hwt hL

theorem held : Rows.KeyOrdersSaid :=
  OpenClaim.holds_of_wide 12 Tryd.f12 rfl rfl rfl rfl rfl rfl rfl ⟨rfl, rfl, rfl, rfl, rfl⟩ rfl rfl rfl rfl rfl (by kernel_rfl) Tryd.func12 (by kernel_rfl)
    (of_decide_eq_true (by kernel_rfl)) (by unfold Func.isWrapper; first | (rw [if_pos (by decide +kernel)]; kernel_rfl) | (rw [if_neg (by decide +kernel)]; exact ⟨rfl, rfl⟩))
    (fun os started H enc _ => lifted os started H enc)

theorem proved : Rows.KeyOrdersCardSaid :=
  Claim7.holds_tied_plain_at .later [] [.data, .data, .data, .data, .data, .pinned] true (true, "33cbc621b9bc39ae48fe9ba45c9769d29fa43c0c058c91d33155a8a46bced9f6") false
    held (fun _ h => by cases h) (by kernel_rfl) (fun _ h => by cases h) keyOrders_row_tie rfl ⟨rfl, rfl⟩ (by kernel_rfl) rfl
    (fun f fn hf hfn => by
      obtain rfl : f = 12 := Option.some.inj ((show Tryd.prog.funcNamed "thimble/thimblelaw05.KeyOrders" = some 12 by kernel_rfl).symm.trans hf) |>.symm
      obtain rfl : fn = Tryd.f12 := (Option.some.inj (Tryd.func12.symm.trans hfn)).symm
      exact ⟨by kernel_rfl, fun j t ht => by
        rw [Tryd.params12] at ht
        have hm : t ∈ [27, 27] := by simpa using Array.mem_of_getElem? ht
        have hall : ([27, 27].all fun u => !Tryd.prog.wantsStandIn u) = true := by kernel_rfl
        exact (show Tryd.prog.wantsStandIn t = false by simpa using List.all_eq_true.1 hall t hm)⟩)
    (by kernel_rfl)
end Go.Proofs.YtjhoaohpfbgfpaaDoor.keyOrders
