/-
  'thimblelaw18.CacheWhole' returns true for every row of numbers, and every number, and leaves them as they are: no condition.
-/
import Derived.Test.YtjclkpgmloejoaaRows
import Derived.Test.YtjclkpgmloejoaaPkB
import Derived.Test.YtjclkpgmloejoaaPkE
namespace Go.Proofs.Ytjclkpgmloejoaa.cacheWhole
open Go Go.Gk Go.Gk.Dev Go.Gk.Cch Go.ChangeShapes Go.WideShapes Go.ChangeAt Go.RowKit
theorem h_device_New : DevNewOk Try.prog 41 := dnew_ok (f := 41) (hd := by kernel_rfl)
theorem h_thimblelaw15_Filled : FilledOk Try.prog 43 := filled_ok (f := 43) (hd := by kernel_rfl)
theorem h_device_Device_Size : DSizeOk Try.prog 46 := dsize_ok (f := 46) (hd := by kernel_rfl)
theorem h_device_Device_ready : DReadyOk Try.prog 57 := dready_ok (f := 57) (f1 := 46) (hd := by kernel_rfl) (h1 := h_device_Device_Size)
theorem h_device_Device_burn : DBurnOk Try.prog 66 := dburn_ok (f := 66) (hd := by kernel_rfl)
theorem h_device_Device_Write : DWriteOk Try.prog 42 := dwrite_ok (f := 42) (f1 := 57) (f2 := 66) (hd := by kernel_rfl) (h1 := h_device_Device_ready) (h2 := h_device_Device_burn)
theorem h_cache_New : CacheNewOk Try.prog 44 := cnew_ok (f := 44) (f1 := 46) (hd := by kernel_rfl) (h1 := h_device_Device_Size)
theorem h_thimblelaw18_over : OverOk Try.prog 13 := over_ok (f := 13) (f1 := 41) (f2 := 43) (f3 := 42) (f4 := 44) (hd := by kernel_rfl) (h1 := h_device_New) (h2 := h_thimblelaw15_Filled) (h3 := h_device_Device_Write) (h4 := h_cache_New)
theorem h_cache_Cache_none : CNoneOk Try.prog 45 := cnone_ok (f := 45) (hd := by kernel_rfl)
theorem h_cache_Cache_find : CFindOk Try.prog 47 := cfind_ok (f := 47) (hd := by kernel_rfl)
theorem h_cache_Cache_pinned : CPinnedOk Try.prog 75 := cpinned_ok (f := 75) (hd := by kernel_rfl)
theorem h_cache_Cache_sweep : CSweepOk Try.prog 67 := csweep_ok (f := 67) (f1 := 75) (hd := by kernel_rfl) (h1 := h_cache_Cache_pinned)
theorem h_cache_Cache_room : CRoomOk Try.prog 48 := croom_ok (f := 48) (f1 := 67) (hd := by kernel_rfl) (h1 := h_cache_Cache_sweep)
theorem h_device_Device_newest : IterOk Try.prog 58 := iter_ok (f := 58) (f1 := 69) (hd := by kernel_rfl) (h := by kernel_rfl)
theorem h_device_Device_Read : DReadOk Try.prog 28 := dread_ok (f := 28) (f1 := 57) (f2 := 58) (hd := by kernel_rfl) (h1 := h_device_Device_ready) (h2 := h_device_Device_newest)
theorem h_cache_Cache_Get : CGetOk Try.prog 14 := cget_ok (f := 14) (f1 := 45) (f2 := 46) (f3 := 47) (f4 := 48) (f5 := 28) (hd := by kernel_rfl) (h1 := h_cache_Cache_none) (h2 := h_device_Device_Size) (h3 := h_cache_Cache_find) (h4 := h_cache_Cache_room) (h5 := h_device_Device_Read)
theorem h_cache_Cache_Leave : CLeaveOk Try.prog 15 := cleave_ok (f := 15) (f1 := 45) (f2 := 47) (hd := by kernel_rfl) (h1 := h_cache_Cache_none) (h2 := h_cache_Cache_find)
theorem h_cache_Cache_Held : CHeldOk Try.prog 18 := cheld_ok (f := 18) (f1 := 45) (hd := by kernel_rfl) (h1 := h_cache_Cache_none)
theorem h_thimbleref17_Ints : IntsOk Try.prog 40 := ints_ok (f := 40) (hd := by kernel_rfl)
theorem h_cache_Cache_Misses : MissesOk Try.prog 17 := cmisses_ok (f := 17) (f1 := 45) (hd := by kernel_rfl) (h1 := h_cache_Cache_none)
theorem h_thimblelaw18_works : CWorksOk Try.prog 12 := cworks_ok (f := 12) (f1 := 13) (f2 := 14) (f3 := 15) (f4 := 18) (f5 := 40) (f6 := 17) (hd := by kernel_rfl) (h1 := h_thimblelaw18_over) (h2 := h_cache_Cache_Get) (h3 := h_cache_Cache_Leave) (h4 := h_cache_Cache_Held) (h5 := h_thimbleref17_Ints) (h6 := h_cache_Cache_Misses)
theorem h_cache_Cache_Forget : CForgetOk Try.prog 19 := cforget_ok (f := 19) (f1 := 45) (f2 := 47) (hd := by kernel_rfl) (h1 := h_cache_Cache_none) (h2 := h_cache_Cache_find)
theorem own : ownKnob Try.prog.godebug = none := by kernel_rfl
theorem laidOut : laidOutB Try.prog = true := by kernel_rfl

set_option maxRecDepth 100000 in
theorem contract (H : Type) (enc : TypeId × Value → H) (W : World) (base : Nat) (args : Array Value) (ds gs : List (DataW H)) (before : List MemPlace)
    (hval : ∀ (j : Nat) t v, Try.f5.params[j]? = some t → args[j]? = some v → Value.okWide Try.prog W .any base t v)
    (hW : DataW.Whole enc Try.prog Try.f5.params.toList Rows.cacheWholeSpec.vars false W args.toList ds gs before)
    (hwt : (DataW.weightsEach Try.prog (Try.f5.params.toList ++ Rows.cacheWholeSpec.plain.varTypes Try.prog) (ds ++ gs)).all (· ≤ reachBytes) = true) :
    Calls Try.prog 5 args W fun e W' => ∃ v, e = .returned v ∧ Rows.cacheWholeSpec.post enc Try.prog Try.f5 false true false false W args v W' := by
  have hW' := hW
  obtain ⟨p, q, hA0, hV, rfl, hfz, hnd⟩ := hW
  have hA : DataW.TrodAll enc Try.prog W 0 (fun _ => true) true Try.f5.params.toList args.toList ds p := hA0
  rw [Try.params5] at hA hval hwt
  obtain ⟨v0, vs0, d0, ds0, p0, q0, hargs, rfl, rfl, h0, r0⟩ := trodAll_cons hA
  obtain ⟨v1, vs1, d1, ds1, p1, q1, rfl, rfl, rfl, h1, r1⟩ := trodAll_cons r0
  obtain ⟨rfl, rfl, rfl⟩ := trodAll_nil r1
  obtain rfl : args = #[v0, v1] := by cases args; simp_all
  obtain ⟨rfl, rfl⟩ := trodVars_none hV
  obtain ⟨gl, hgs⟩ := arg_slice (sz := 1) Try.underlying22 (by kernel_rfl) (by omega) (of_decide_eq_true (by kernel_rfl)) (rd_int Try.underlying3) (hval 0 22 v0 rfl rfl) h0 (arg_weights (j := 0) hwt rfl rfl)
  obtain ⟨fo, rfl, -, -⟩ := arg_int Try.underlying3 (hval 1 3 v1 rfl rfl) h1 (arg_weights (j := 1) hwt rfl rfl)
  exact calls_true laidOut (by kernel_rfl) hW' rfl rfl (by kernel_rfl) Try.underlying4 (cacheWhole (f := 5) (f1 := 12) (f2 := 13) (f3 := 14) (f4 := 15) (f5 := 17) (f6 := 19) (hd := by kernel_rfl) (h1 := h_thimblelaw18_works) (h2 := h_thimblelaw18_over) (h3 := h_cache_Cache_Get) (h4 := h_cache_Cache_Leave) (h5 := h_cache_Cache_Misses) (h6 := h_cache_Cache_Forget) (d := hw W) (hgs := hgs))

set_option maxRecDepth 100000 in
theorem lifted (os : Os) (started : os.Started) (H : Type) (enc : TypeId × Value → H) :
    ReturnsInHanded {} Try.checked os 5 .any (Rows.cacheWholeSpec.pre6 enc Try.prog Try.f5 Rows.cacheWholeRow.domain false) (Rows.cacheWholeSpec.post enc Try.prog Try.f5 false true false false) := by
  refine returnsInHanded_of_change_sized (C := Try.checked) own started (by kernel_rfl) Try.func5
    (ChangeSpec.witness6 (enc := enc) (C := Try.checked) false ⟨#[], #[.slice none 0 0, .int .i64 0], []⟩ 8 (by kernel_rfl) (by kernel_rfl) (by kernel_rfl) (by kernel_rfl)) ?_
  intro W base args ds gs before hval hW _ hwt _
  exact contract H enc W base args ds gs before hval hW hwt

theorem proved : Rows.CacheWholeSaid :=
  OpenClaim.holds_of_wide 5 Try.f5 rfl rfl rfl rfl rfl rfl rfl ⟨rfl, rfl, rfl, rfl, rfl⟩ rfl rfl rfl rfl rfl (by kernel_rfl) Try.func5 (by kernel_rfl)
    (of_decide_eq_true (by kernel_rfl)) (by unfold Func.isWrapper; first | (rw [if_pos (by decide +kernel)]; kernel_rfl) | (rw [if_neg (by decide +kernel)]; exact ⟨rfl, rfl⟩))
    (fun os started H enc _ => lifted os started H enc)
end Go.Proofs.Ytjclkpgmloejoaa.cacheWhole
