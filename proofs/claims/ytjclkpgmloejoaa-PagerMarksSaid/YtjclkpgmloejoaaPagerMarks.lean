/-
  'thimblelaw19.PagerMarks' returns true for all rows of calls, and leaves them as they are: no condition.
-/
import Derived.Test.YtjclkpgmloejoaaRows
import Derived.Test.YtjclkpgmloejoaaPkB
import Derived.Test.YtjclkpgmloejoaaPkF
namespace Go.Proofs.Ytjclkpgmloejoaa.pagerMarks
open Go Go.Gk Go.Gk.Dev Go.Gk.Cch Go.Gk.Pgr Go.Gk.Node Go.ChangeShapes Go.WideShapes Go.ChangeAt Go.RowKit
theorem h_device_New : DevNewOk Try.prog 41 := dnew_ok (f := 41) (hd := by kernel_rfl)
theorem h_device_Device_Size : DSizeOk Try.prog 46 := dsize_ok (f := 46) (hd := by kernel_rfl)
theorem h_cache_New : CacheNewOk Try.prog 44 := cnew_ok (f := 44) (f1 := 46) (hd := by kernel_rfl) (h1 := h_device_Device_Size)
theorem h_cache_Cache_none : CNoneOk Try.prog 45 := cnone_ok (f := 45) (hd := by kernel_rfl)
theorem h_cache_Cache_Held : CHeldOk Try.prog 18 := cheld_ok (f := 18) (f1 := 45) (hd := by kernel_rfl) (h1 := h_cache_Cache_none)
theorem h_pager_Pager_kind : KindOk Try.prog 55 := kind_ok (f := 55) (hd := by kernel_rfl)
theorem h_pager_New : PNewOk Try.prog 51 := pnew_ok (f := 51) (f1 := 46) (f2 := 18) (f3 := 55) (hd := by kernel_rfl) (h1 := h_device_Device_Size) (h2 := h_cache_Cache_Held) (h3 := h_pager_Pager_kind)
theorem h_thimblelaw19_made : MadeOk Try.prog 21 := made_ok (f := 21) (f1 := 41) (f2 := 44) (f3 := 51) (hd := by kernel_rfl) (h1 := h_device_New) (h2 := h_cache_New) (h3 := h_pager_New)
theorem h_pager_Pager_none : PNoneOk Try.prog 53 := pnone_ok (f := 53) (hd := by kernel_rfl)
theorem h_slices_Index_int_int : IndexOk Try.prog 68 := index_ok (f := 68) (hd := by kernel_rfl)
theorem h_pager_Pager_Take : TakeOk Try.prog 49 := take_ok (f := 49) (f1 := 53) (f2 := 68) (hd := by kernel_rfl) (h1 := h_pager_Pager_none) (h2 := h_slices_Index_int_int)
theorem h_pager_Pager_Drop : DropOk Try.prog 50 := drop_ok (f := 50) (f1 := 53) (f2 := 55) (hd := by kernel_rfl) (h1 := h_pager_Pager_none) (h2 := h_pager_Pager_kind)
theorem h_cache_Cache_find : CFindOk Try.prog 47 := cfind_ok (f := 47) (hd := by kernel_rfl)
theorem h_cache_Cache_Forget : CForgetOk Try.prog 19 := cforget_ok (f := 19) (f1 := 45) (f2 := 47) (hd := by kernel_rfl) (h1 := h_cache_Cache_none) (h2 := h_cache_Cache_find)
theorem h_pager_Pager_Done : DoneOk Try.prog 24 := done_ok (f := 24) (f1 := 53) (f2 := 19) (hd := by kernel_rfl) (h1 := h_pager_Pager_none) (h2 := h_cache_Cache_Forget)
theorem h_pager_Pager_Free : FreeOk Try.prog 29 := free_ok (f := 29) (f1 := 53) (hd := by kernel_rfl) (h1 := h_pager_Pager_none)
theorem h_thimblelaw19_works : PWorksOk Try.prog 20 := pworks_ok (f := 20) (f1 := 21) (f2 := 49) (f3 := 50) (f4 := 24) (f5 := 29) (hd := by kernel_rfl) (h1 := h_thimblelaw19_made) (h2 := h_pager_Pager_Take) (h3 := h_pager_Pager_Drop) (h4 := h_pager_Pager_Done) (h5 := h_pager_Pager_Free)
theorem h_thimblelaw15_Filled : FilledOk Try.prog 43 := filled_ok (f := 43) (hd := by kernel_rfl)
theorem h_slices_Clone_byte_byte : CloneOk RByte 1 Try.prog 56 := clone_byte_byte (f := 56) (hd := by kernel_rfl)
theorem h_pager_Pager_Put : PutOk Try.prog 52 := put_ok (f := 52) (f1 := 53) (f2 := 55) (f3 := 56) (hd := by kernel_rfl) (h1 := h_pager_Pager_none) (h2 := h_pager_Pager_kind) (h3 := h_slices_Clone_byte_byte)
theorem h_device_Device_ready : DReadyOk Try.prog 57 := dready_ok (f := 57) (f1 := 46) (hd := by kernel_rfl) (h1 := h_device_Device_Size)
theorem h_device_Device_burn : DBurnOk Try.prog 66 := dburn_ok (f := 66) (hd := by kernel_rfl)
theorem h_device_Device_Write : DWriteOk Try.prog 42 := dwrite_ok (f := 42) (f1 := 57) (f2 := 66) (hd := by kernel_rfl) (h1 := h_device_Device_ready) (h2 := h_device_Device_burn)
theorem h_device_Device_Sync : DSyncOk Try.prog 54 := dsync_ok (f := 54) (f1 := 57) (f2 := 66) (hd := by kernel_rfl) (h1 := h_device_Device_ready) (h2 := h_device_Device_burn)
theorem h_pager_Pager_Flush : FlushOk Try.prog 23 := flush_ok (f := 23) (f1 := 53) (f2 := 42) (f3 := 54) (hd := by kernel_rfl) (h1 := h_pager_Pager_none) (h2 := h_device_Device_Write) (h3 := h_device_Device_Sync)
theorem h_thimblelaw19_run : PRunOk Try.prog 22 := prun_ok (f := 22) (f1 := 49) (f2 := 43) (f3 := 52) (f4 := 50) (f5 := 23) (hd := by kernel_rfl) (h1 := h_pager_Pager_Take) (h2 := h_thimblelaw15_Filled) (h3 := h_pager_Pager_Put) (h4 := h_pager_Pager_Drop) (h5 := h_pager_Pager_Flush)
theorem h_cache_Cache_pinned : CPinnedOk Try.prog 75 := cpinned_ok (f := 75) (hd := by kernel_rfl)
theorem h_cache_Cache_sweep : CSweepOk Try.prog 67 := csweep_ok (f := 67) (f1 := 75) (hd := by kernel_rfl) (h1 := h_cache_Cache_pinned)
theorem h_cache_Cache_room : CRoomOk Try.prog 48 := croom_ok (f := 48) (f1 := 67) (hd := by kernel_rfl) (h1 := h_cache_Cache_sweep)
theorem h_device_Device_newest : IterOk Try.prog 58 := iter_ok (f := 58) (f1 := 69) (hd := by kernel_rfl) (h := by kernel_rfl)
theorem h_device_Device_Read : DReadOk Try.prog 28 := dread_ok (f := 28) (f1 := 57) (f2 := 58) (hd := by kernel_rfl) (h1 := h_device_Device_ready) (h2 := h_device_Device_newest)
theorem h_cache_Cache_Get : CGetOk Try.prog 14 := cget_ok (f := 14) (f1 := 45) (f2 := 46) (f3 := 47) (f4 := 48) (f5 := 28) (hd := by kernel_rfl) (h1 := h_cache_Cache_none) (h2 := h_device_Device_Size) (h3 := h_cache_Cache_find) (h4 := h_cache_Cache_room) (h5 := h_device_Device_Read)
theorem h_cache_Cache_Leave : CLeaveOk Try.prog 15 := cleave_ok (f := 15) (f1 := 45) (f2 := 47) (hd := by kernel_rfl) (h1 := h_cache_Cache_none) (h2 := h_cache_Cache_find)
theorem h_pager_Pager_Get : PGetOk Try.prog 26 := pget_ok (f := 26) (f1 := 53) (f2 := 55) (f3 := 56) (f4 := 14) (f5 := 15) (hd := by kernel_rfl) (h1 := h_pager_Pager_none) (h2 := h_pager_Pager_kind) (h3 := h_slices_Clone_byte_byte) (h4 := h_cache_Cache_Get) (h5 := h_cache_Cache_Leave)
theorem h_pager_Pager_Old : OldOk Try.prog 25 := old_ok (f := 25) (f1 := 53) (hd := by kernel_rfl) (h1 := h_pager_Pager_none)
theorem h_thimblelaw19_look : LookOk Try.prog 30 := look_ok (f := 30) (f1 := 26) (f2 := 25) (f3 := 29) (hd := by kernel_rfl) (h1 := h_pager_Pager_Get) (h2 := h_pager_Pager_Old) (h3 := h_pager_Pager_Free)
theorem h_slices_Clone_int_int : CloneOk RInt 8 Try.prog 59 := clone_int_int (f := 59) (hd := by kernel_rfl)
theorem h_maps_Clone_map_int_byte_int_byte : MapCloneOk Try.prog 60 := mapClone_ok (f := 60) (t1 := 58) (hd := by kernel_rfl)
theorem h_pager_Pager_Mark : MarkOk Try.prog 31 := mark_ok (f := 31) (f1 := 53) (f2 := 59) (f3 := 60) (hd := by kernel_rfl) (h1 := h_pager_Pager_none) (h2 := h_slices_Clone_int_int) (h3 := h_maps_Clone_map_int_byte_int_byte)
theorem h_pager_Pager_Back : BackOk Try.prog 32 := back_ok (f := 32) (f1 := 53) (f2 := 59) (f3 := 60) (hd := by kernel_rfl) (h1 := h_pager_Pager_none) (h2 := h_slices_Clone_int_int) (h3 := h_maps_Clone_map_int_byte_int_byte)
theorem own : ownKnob Try.prog.godebug = none := by kernel_rfl
theorem laidOut : laidOutB Try.prog = true := by kernel_rfl

set_option maxRecDepth 100000 in
theorem contract (H : Type) (enc : TypeId × Value → H) (W : World) (base : Nat) (args : Array Value) (ds gs : List (DataW H)) (before : List MemPlace)
    (hval : ∀ (j : Nat) t v, Try.f8.params[j]? = some t → args[j]? = some v → Value.okWide Try.prog W .any base t v)
    (hW : DataW.Whole enc Try.prog Try.f8.params.toList Rows.pagerMarksSpec.vars false W args.toList ds gs before)
    (hwt : (DataW.weightsEach Try.prog (Try.f8.params.toList ++ Rows.pagerMarksSpec.plain.varTypes Try.prog) (ds ++ gs)).all (· ≤ reachBytes) = true) :
    Calls Try.prog 8 args W fun e W' => ∃ v, e = .returned v ∧ Rows.pagerMarksSpec.post enc Try.prog Try.f8 false true false false W args v W' := by
  have hW' := hW
  obtain ⟨p, q, hA0, hV, rfl, hfz, hnd⟩ := hW
  have hA : DataW.TrodAll enc Try.prog W 0 (fun _ => true) true Try.f8.params.toList args.toList ds p := hA0
  rw [Try.params8] at hA hval hwt
  obtain ⟨v0, vs0, d0, ds0, p0, q0, hargs, rfl, rfl, h0, r0⟩ := trodAll_cons hA
  obtain ⟨v1, vs1, d1, ds1, p1, q1, rfl, rfl, rfl, h1, r1⟩ := trodAll_cons r0
  obtain ⟨v2, vs2, d2, ds2, p2, q2, rfl, rfl, rfl, h2, r2⟩ := trodAll_cons r1
  obtain ⟨rfl, rfl, rfl⟩ := trodAll_nil r2
  obtain rfl : args = #[v0, v1, v2] := by cases args; simp_all
  obtain ⟨rfl, rfl⟩ := trodVars_none hV
  obtain ⟨ax, hax⟩ := arg_slice (sz := 4) Try.underlying39 (by kernel_rfl) (by omega) (of_decide_eq_true (by kernel_rfl)) (rd_act (ti := 3) (tb := 5) (ts := 28) Try.underlying99 (by kernel_rfl) rfl rfl rfl rfl (by kernel_rfl) (by kernel_rfl) (by kernel_rfl) Try.underlying3 Try.underlying5 Try.underlying28 (of_decide_eq_true (by kernel_rfl))) (hval 0 39 v0 rfl rfl) h0 (arg_weights (j := 0) hwt rfl rfl)
  obtain ⟨bx, hbx⟩ := arg_slice (sz := 4) Try.underlying39 (by kernel_rfl) (by omega) (of_decide_eq_true (by kernel_rfl)) (rd_act (ti := 3) (tb := 5) (ts := 28) Try.underlying99 (by kernel_rfl) rfl rfl rfl rfl (by kernel_rfl) (by kernel_rfl) (by kernel_rfl) Try.underlying3 Try.underlying5 Try.underlying28 (of_decide_eq_true (by kernel_rfl))) (hval 1 39 v1 rfl rfl) h1 (arg_weights (j := 1) hwt rfl rfl)
  obtain ⟨cx, hcx⟩ := arg_slice (sz := 4) Try.underlying39 (by kernel_rfl) (by omega) (of_decide_eq_true (by kernel_rfl)) (rd_act (ti := 3) (tb := 5) (ts := 28) Try.underlying99 (by kernel_rfl) rfl rfl rfl rfl (by kernel_rfl) (by kernel_rfl) (by kernel_rfl) Try.underlying3 Try.underlying5 Try.underlying28 (of_decide_eq_true (by kernel_rfl))) (hval 2 39 v2 rfl rfl) h2 (arg_weights (j := 2) hwt rfl rfl)
  exact calls_true laidOut (by kernel_rfl) hW' rfl rfl (by kernel_rfl) Try.underlying4 (pagerMarks (f := 8) (f1 := 20) (f2 := 21) (f3 := 22) (f4 := 30) (f5 := 31) (f6 := 32) (f7 := 24) (hd := by kernel_rfl) (h1 := h_thimblelaw19_works) (h2 := h_thimblelaw19_made) (h3 := h_thimblelaw19_run) (h4 := h_thimblelaw19_look) (h5 := h_pager_Pager_Mark) (h6 := h_pager_Pager_Back) (h7 := h_pager_Pager_Done) (d := hw W) (has := hax) (hbs := hbx) (hcs := hcx))

set_option maxRecDepth 100000 in
theorem lifted (os : Os) (started : os.Started) (H : Type) (enc : TypeId × Value → H) :
    ReturnsInHanded {} Try.checked os 8 .any (Rows.pagerMarksSpec.pre6 enc Try.prog Try.f8 Rows.pagerMarksRow.domain false) (Rows.pagerMarksSpec.post enc Try.prog Try.f8 false true false false) := by
  refine returnsInHanded_of_change_sized (C := Try.checked) own started (by kernel_rfl) Try.func8
    (ChangeSpec.witness6 (enc := enc) (C := Try.checked) false ⟨#[], #[.slice none 0 0, .slice none 0 0, .slice none 0 0], []⟩ 8 (by kernel_rfl) (by kernel_rfl) (by kernel_rfl) (by kernel_rfl)) ?_
  intro W base args ds gs before hval hW _ hwt _
  exact contract H enc W base args ds gs before hval hW hwt

theorem proved : Rows.PagerMarksSaid :=
  OpenClaim.holds_of_wide 8 Try.f8 rfl rfl rfl rfl rfl rfl rfl ⟨rfl, rfl, rfl, rfl, rfl⟩ rfl rfl rfl rfl rfl (by kernel_rfl) Try.func8 (by kernel_rfl)
    (of_decide_eq_true (by kernel_rfl)) (by unfold Func.isWrapper; first | (rw [if_pos (by decide +kernel)]; kernel_rfl) | (rw [if_neg (by decide +kernel)]; exact ⟨rfl, rfl⟩))
    (fun os started H enc _ => lifted os started H enc)
end Go.Proofs.Ytjclkpgmloejoaa.pagerMarks
