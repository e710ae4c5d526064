/-
  'thimblelaw21.ChainBack' returns true for every list of rows of bytes and every number, and leaves them as they are: no condition.
-/
import Derived.Test.YtpkcbopokjffhaaRows
import Derived.Test.YtpkcbopokjffhaaPkB
import Derived.Test.YtpkcbopokjffhaaPkG
namespace Go.Proofs.Ytpkcbopokjffhaa.chainBack
open Go Go.Gk Go.Gk.Dev Go.Gk.Cch Go.Gk.Pgr Go.Gk.Chn Go.Gk.Node Go.ChangeShapes Go.WideShapes Go.ChangeAt Go.RowKit
theorem h_device_New : DevNewOk Try.prog 18 := dnew_ok (f := 18) (hd := by kernel_rfl)
theorem h_thimbleref15_New : R15Ok Try.prog 19 := r15_ok (f := 19) (hd := by kernel_rfl)
theorem h_device_Device_Size : DSizeOk Try.prog 30 := dsize_ok (f := 30) (hd := by kernel_rfl)
theorem h_cache_New : CacheNewOk Try.prog 20 := cnew_ok (f := 20) (f1 := 30) (hd := by kernel_rfl) (h1 := h_device_Device_Size)
theorem h_thimbleref18_New : R18Ok Try.prog 21 := r18_ok (f := 21) (hd := by kernel_rfl)
theorem h_cache_Cache_none : CNoneOk Try.prog 37 := cnone_ok (f := 37) (hd := by kernel_rfl)
theorem h_cache_Cache_Held : CHeldOk Try.prog 31 := cheld_ok (f := 31) (f1 := 37) (hd := by kernel_rfl) (h1 := h_cache_Cache_none)
theorem h_pager_Pager_kind : KindOk Try.prog 27 := kind_ok (f := 27) (hd := by kernel_rfl)
theorem h_pager_New : PNewOk Try.prog 22 := pnew_ok (f := 22) (f1 := 30) (f2 := 31) (f3 := 27) (hd := by kernel_rfl) (h1 := h_device_Device_Size) (h2 := h_cache_Cache_Held) (h3 := h_pager_Pager_kind)
theorem h_thimbleref16_Region : R16Ok Try.prog 32 := r16_ok (f := 32) (hd := by kernel_rfl)
theorem h_thimbleref19_New : R19Ok Try.prog 23 := r19_ok (f := 23) (f1 := 32) (f2 := 33) (hd := by kernel_rfl) (h1 := h_thimbleref16_Region)
theorem h_thimblelaw21_Made : Made21Ok Try.prog 11 := made21_ok (f := 11) (f1 := 18) (f2 := 19) (f3 := 20) (f4 := 21) (f5 := 22) (f6 := 23) (hd := by kernel_rfl) (h1 := h_device_New) (h2 := h_thimbleref15_New) (h3 := h_cache_New) (h4 := h_thimbleref18_New) (h5 := h_pager_New) (h6 := h_thimbleref19_New)
theorem h_chain_Pages : PagesOk Try.prog 12 := pages_ok (f := 12) (hd := by kernel_rfl)
theorem h_pager_Pager_none : PNoneOk Try.prog 24 := pnone_ok (f := 24) (hd := by kernel_rfl)
theorem h_pager_Pager_Drop : DropOk Try.prog 17 := drop_ok (f := 17) (f1 := 24) (f2 := 27) (hd := by kernel_rfl) (h1 := h_pager_Pager_none) (h2 := h_pager_Pager_kind)
theorem h_chain_taken_1 : TkClOk Try.prog 25 := tkcl_ok (f := 25) (f3 := 17) (hd := by kernel_rfl) (h := h_pager_Pager_Drop)
theorem h_slices_Index_int_int : IndexOk Try.prog 34 := index_ok (f := 34) (hd := by kernel_rfl)
theorem h_pager_Pager_Take : TakeOk Try.prog 26 := take_ok (f := 26) (f1 := 24) (f2 := 34) (hd := by kernel_rfl) (h1 := h_pager_Pager_none) (h2 := h_slices_Index_int_int)
theorem h_chain_taken : TakenOk Try.prog 14 := taken_ok (f := 14) (f1 := 25) (f2 := 26) (hd := by kernel_rfl) (h0 := h_chain_taken_1) (h1 := h_pager_Pager_Take)
theorem h_slices_Clone_byte_byte : CloneOk RByte 1 Try.prog 28 := clone_byte_byte (f := 28) (hd := by kernel_rfl)
theorem h_pager_Pager_Put : PutOk Try.prog 15 := put_ok (f := 15) (f1 := 24) (f2 := 27) (f3 := 28) (hd := by kernel_rfl) (h1 := h_pager_Pager_none) (h2 := h_pager_Pager_kind) (h3 := h_slices_Clone_byte_byte)
theorem h_chain_Put : CPutOk Try.prog 6 := cput_ok (f := 6) (f1 := 12) (f2 := 14) (f3 := 15) (hd := by kernel_rfl) (h1 := h_chain_Pages) (h2 := h_chain_taken) (h3 := h_pager_Pager_Put)
theorem h_cache_Cache_find : CFindOk Try.prog 40 := cfind_ok (f := 40) (hd := by kernel_rfl)
theorem h_cache_Cache_pinned : CPinnedOk Try.prog 46 := cpinned_ok (f := 46) (hd := by kernel_rfl)
theorem h_cache_Cache_sweep : CSweepOk Try.prog 43 := csweep_ok (f := 43) (f1 := 46) (hd := by kernel_rfl) (h1 := h_cache_Cache_pinned)
theorem h_cache_Cache_room : CRoomOk Try.prog 41 := croom_ok (f := 41) (f1 := 43) (hd := by kernel_rfl) (h1 := h_cache_Cache_sweep)
theorem h_device_Device_ready : DReadyOk Try.prog 44 := dready_ok (f := 44) (f1 := 30) (hd := by kernel_rfl) (h1 := h_device_Device_Size)
theorem h_device_Device_newest : IterOk Try.prog 45 := iter_ok (f := 45) (f1 := 47) (hd := by kernel_rfl) (h := by kernel_rfl)
theorem h_device_Device_Read : DReadOk Try.prog 42 := dread_ok (f := 42) (f1 := 44) (f2 := 45) (hd := by kernel_rfl) (h1 := h_device_Device_ready) (h2 := h_device_Device_newest)
theorem h_cache_Cache_Get : CGetOk Try.prog 38 := cget_ok (f := 38) (f1 := 37) (f2 := 30) (f3 := 40) (f4 := 41) (f5 := 42) (hd := by kernel_rfl) (h1 := h_cache_Cache_none) (h2 := h_device_Device_Size) (h3 := h_cache_Cache_find) (h4 := h_cache_Cache_room) (h5 := h_device_Device_Read)
theorem h_cache_Cache_Leave : CLeaveOk Try.prog 39 := cleave_ok (f := 39) (f1 := 37) (f2 := 40) (hd := by kernel_rfl) (h1 := h_cache_Cache_none) (h2 := h_cache_Cache_find)
theorem h_pager_Pager_Get : PGetOk Try.prog 36 := pget_ok (f := 36) (f1 := 24) (f2 := 27) (f3 := 28) (f4 := 38) (f5 := 39) (hd := by kernel_rfl) (h1 := h_pager_Pager_none) (h2 := h_pager_Pager_kind) (h3 := h_slices_Clone_byte_byte) (h4 := h_cache_Cache_Get) (h5 := h_cache_Cache_Leave)
theorem h_chain_pages_1 : P1Ok Try.prog 35 := p1_ok (f := 35) (f2 := 12) (f3 := 36) (hd := by kernel_rfl) (h1 := h_chain_Pages) (h2 := h_pager_Pager_Get)
theorem h_chain_pages : CPagesOk Try.prog 29 := cpages_ok (f := 29) (f1 := 35) (hd := by kernel_rfl) (h := h_chain_pages_1)
theorem h_chain_read : CReadOk Try.prog 16 := cread_ok (f := 16) (f1 := 29) (f2 := 12) (hd := by kernel_rfl) (h1 := h_chain_pages) (h2 := h_chain_Pages)
theorem h_chain_Get : CGetsOk Try.prog 7 := cgets_ok (f := 7) (f1 := 16) (hd := by kernel_rfl) (h1 := h_chain_read)
theorem h_pager_Pager_Free : FreeOk Try.prog 13 := free_ok (f := 13) (f1 := 24) (hd := by kernel_rfl) (h1 := h_pager_Pager_none)
theorem h_thimblelaw21_works : CWks Try.prog 10 := works21_ok (f := 10) (f1 := 11) (f2 := 6) (f3 := 7) (f4 := 13) (f5 := 12) (hd := by kernel_rfl) (h1 := h_thimblelaw21_Made) (h2 := h_chain_Put) (h3 := h_chain_Get) (h4 := h_pager_Pager_Free) (h5 := h_chain_Pages)
theorem h_chain_List : CListOk Try.prog 8 := clist_ok (f := 8) (f1 := 16) (hd := by kernel_rfl) (h1 := h_chain_read)
theorem h_chain_Drop : CDropOk Try.prog 9 := cdrop_ok (f := 9) (f1 := 16) (f2 := 17) (hd := by kernel_rfl) (h1 := h_chain_read) (h2 := h_pager_Pager_Drop)
theorem own : ownKnob Try.prog.godebug = none := by kernel_rfl
theorem laidOut : laidOutB Try.prog = true := by kernel_rfl

set_option maxRecDepth 100000 in
theorem contract (H : Type) (enc : TypeId × Value → H) (W : World) (base : Nat) (args : Array Value) (ds gs : List (DataW H)) (before : List MemPlace)
    (hval : ∀ (j : Nat) t v, Try.f5.params[j]? = some t → args[j]? = some v → Value.okWide Try.prog W .any base t v)
    (hW : DataW.Whole enc Try.prog Try.f5.params.toList Rows.chainBackSpec.vars false W args.toList ds gs before)
    (hwt : (DataW.weightsEach Try.prog (Try.f5.params.toList ++ Rows.chainBackSpec.plain.varTypes Try.prog) (ds ++ gs)).all (· ≤ reachBytes) = true) :
    Calls Try.prog 5 args W fun e W' => ∃ v, e = .returned v ∧ Rows.chainBackSpec.post enc Try.prog Try.f5 false true false false W args v W' := by
  have hW' := hW
  obtain ⟨p, q, hA0, hV, rfl, hfz, hnd⟩ := hW
  have hA : DataW.TrodAll enc Try.prog W 0 (fun _ => true) true Try.f5.params.toList args.toList ds p := hA0
  rw [Try.params5] at hA hval hwt
  obtain ⟨v0, vs0, d0, ds0, p0, q0, hargs, rfl, rfl, h0, r0⟩ := trodAll_cons hA
  obtain ⟨v1, vs1, d1, ds1, p1, q1, rfl, rfl, rfl, h1, r1⟩ := trodAll_cons r0
  obtain ⟨rfl, rfl, rfl⟩ := trodAll_nil r1
  obtain rfl : args = #[v0, v1] := by cases args; simp_all
  obtain ⟨rfl, rfl⟩ := trodVars_none hV
  obtain ⟨ts, hts⟩ := arg_slice (sz := 1) Try.underlying50 (by kernel_rfl) (by omega) (of_decide_eq_true (by kernel_rfl)) (rd_slice (sz := 1) Try.underlying22 (by kernel_rfl) (by omega) (of_decide_eq_true (by kernel_rfl)) (rd_byte Try.underlying5)) (hval 0 50 v0 rfl rfl) h0 (arg_weights (j := 0) hwt rfl rfl)
  obtain ⟨wh, rfl, -, -⟩ := arg_int Try.underlying3 (hval 1 3 v1 rfl rfl) h1 (arg_weights (j := 1) hwt rfl rfl)
  exact calls_true laidOut (by kernel_rfl) hW' rfl rfl (by kernel_rfl) Try.underlying4 (chainBack (f := 5) (f1 := 10) (f2 := 11) (f3 := 13) (f4 := 6) (f5 := 12) (f6 := 7) (f7 := 8) (f8 := 9) (hd := by kernel_rfl) (h1 := h_thimblelaw21_works) (h2 := h_thimblelaw21_Made) (h3 := h_pager_Pager_Free) (h4 := h_chain_Put) (h5 := h_chain_Pages) (h6 := h_chain_Get) (h7 := h_chain_List) (h8 := h_chain_Drop) (d := hw W) (ht := hts))

set_option maxRecDepth 100000 in
theorem lifted (os : Os) (started : os.Started) (H : Type) (enc : TypeId × Value → H) :
    ReturnsInHanded {} Try.checked os 5 .any (Rows.chainBackSpec.pre6 enc Try.prog Try.f5 Rows.chainBackRow.domain false) (Rows.chainBackSpec.post enc Try.prog Try.f5 false true false false) := by
  refine returnsInHanded_of_change_sized (C := Try.checked) own started (by kernel_rfl) Try.func5
    (ChangeSpec.witness6 (enc := enc) (C := Try.checked) false ⟨#[], #[.slice none 0 0, .int .i64 0], []⟩ 8 (by kernel_rfl) (by kernel_rfl) (by kernel_rfl) (by kernel_rfl)) ?_
  intro W base args ds gs before hval hW _ hwt _
  exact contract H enc W base args ds gs before hval hW hwt

theorem proved : Rows.ChainBackSaid :=
  OpenClaim.holds_of_wide 5 Try.f5 rfl rfl rfl rfl rfl rfl rfl ⟨rfl, rfl, rfl, rfl, rfl⟩ rfl rfl rfl rfl rfl (by kernel_rfl) Try.func5 (by kernel_rfl)
    (of_decide_eq_true (by kernel_rfl)) (by unfold Func.isWrapper; first | (rw [if_pos (by decide +kernel)]; kernel_rfl) | (rw [if_neg (by decide +kernel)]; exact ⟨rfl, rfl⟩))
    (fun os started H enc _ => lifted os started H enc)
end Go.Proofs.Ytpkcbopokjffhaa.chainBack
