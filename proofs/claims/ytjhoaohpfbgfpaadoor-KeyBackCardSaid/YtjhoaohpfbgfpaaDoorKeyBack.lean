/-
  'thimblelaw05.KeyBack' returns true for every value and every row of bytes, and leaves them as they are; the tables that it reads are tied to the program's text. No condition.
-/
import Derived.Test.YtjhoaohpfbgfpaaDoorRows
import Derived.Test.YtjhoaohpfbgfpaaDoorCards
import Derived.Test.YtjhoaohpfbgfpaaDoorTie
import Derived.Test.YtjhoaohpfbgfpaaDoorC5
import Derived.Test.YtjhoaohpfbgfpaaDoorPkG
import Derived.SevenTiedAt
namespace Go.Proofs.YtjhoaohpfbgfpaaDoor.keyBack
open Go Go.Gk Go.Gk.Val Go.ChangeShapes Go.WideShapes Go.ChangeAt Go.RowKit
theorem h_thimbleref03_Bulk : BulkOk Tryd.prog 24 := bulk_ok (f := 24) (hd := by kernel_rfl)
theorem h_thimblelaw05_great : Great4Ok Tryd.prog 30 := great5_ok (f := 30) (f1 := 24) (hd := by kernel_rfl) (h1 := h_thimbleref03_Bulk)
theorem own : ownKnob Tryd.prog.godebug = none := by kernel_rfl
theorem laidOut : laidOutB Tryd.prog = true := by kernel_rfl

set_option maxRecDepth 100000 in
theorem contract (H : Type) (enc : TypeId × Value → H) (W : World) (base : Nat) (args : Array Value) (ds gs : List (DataW H)) (before : List MemPlace)
    (hval : ∀ (j : Nat) t v, Tryd.f10.params[j]? = some t → args[j]? = some v → Value.okWide Tryd.prog W .any base t v)
    (hW : DataW.Whole enc Tryd.prog Tryd.f10.params.toList Rows.keyBackSpec.vars false W args.toList ds gs before)
    (hwt : (DataW.weightsEach Tryd.prog (Tryd.f10.params.toList ++ Rows.keyBackSpec.plain.varTypes Tryd.prog) (ds ++ gs)).all (· ≤ reachBytes) = true) (hL : laidMet Tryd.prog Rows.keyBackRow.laid W) :
    Calls Tryd.prog 10 args W fun e W' => ∃ v, e = .returned v ∧ Rows.keyBackSpec.post enc Tryd.prog Tryd.f10 false true false false W args v W' := by
  have hW' := hW
  obtain ⟨p, q, hA0, hV, rfl, hfz, hnd⟩ := hW
  have hA : DataW.TrodAll enc Tryd.prog W 0 (fun _ => true) true Tryd.f10.params.toList args.toList ds p := hA0
  rw [Tryd.params10] at hA hval hwt
  obtain ⟨v0, vs0, d0, ds0, p0, q0, hargs, rfl, rfl, h0, r0⟩ := trodAll_cons hA
  obtain ⟨v1, vs1, d1, ds1, p1, q1, rfl, rfl, rfl, h1, r1⟩ := trodAll_cons r0
  obtain ⟨rfl, rfl, rfl⟩ := trodAll_nil r1
  obtain rfl : args = #[v0, v1] := by cases args; simp_all
  obtain ⟨rfl, rfl⟩ := trodVars_none hV
  obtain ⟨cs0, x0, rfl, ha⟩ := arg_struct Tryd.underlying27 rdVal (hval 0 27 v0 rfl rfl) h0 (arg_weights (j := 0) hwt rfl rfl)
  obtain ⟨x1, hb⟩ := arg_slice (sz := 1) Tryd.underlying48 (by kernel_rfl) (by omega) (of_decide_eq_true (by kernel_rfl)) (rd_byte Tryd.underlying5) (hval 1 48 v1 rfl rfl) h1 (arg_weights (j := 1) hwt rfl rfl)
  have ht : T (hw W) := tabs_of (.tail _ (.tail _ (.tail _ (.tail _ (.tail _ (.head _)))))) (.tail _ (.tail _ (.tail _ (.head _)))) (.tail _ (.tail _ (.tail _ (.tail _ (.head _))))) (.tail _ (.tail _ (.head _))) hL
  exact calls_true laidOut (by kernel_rfl) hW' rfl rfl (by kernel_rfl) Tryd.underlying4 ((keyBack_ok (f := 10) (f1 := 25) (f2 := 30) (f3 := 26) (f4 := 28) (f5 := 17) (hTm := fun h hl => hTm hl h) (hd := by kernel_rfl) (h1 := h_thimblelaw05_works) (h2 := h_thimblelaw05_great) (h3 := h_key_Bytes) (h4 := h_key_Read) (h5 := h_thimbleref03_Same) (d := hw W) (ht := ht) (ha := ha) (hb := hb)).yes)

set_option maxRecDepth 100000 in
theorem lifted (os : Os) (started : os.Started) (H : Type) (enc : TypeId × Value → H) :
    ReturnsInHanded {} Tryd.checked os 10 .any (fun w args => (Rows.keyBackSpec.pre enc Tryd.prog Tryd.f10 [] false w args ∧ laidMetH Tryd.prog Rows.keyBackRow.laid w) ∧ sizedMet enc Tryd.prog Tryd.f10 (OpenSpec.ofChange Rows.keyBackSpec) false w args) (Rows.keyBackSpec.post enc Tryd.prog Tryd.f10 false true false false) := by
  refine returnsInHanded_of_change_and (C := Tryd.checked) (X := fun w _ => laidMetH Tryd.prog Rows.keyBackRow.laid w) (fun _ _ _ hh h => h.of_heap hh) own started (by kernel_rfl) Tryd.func10
    (ChangeSpec.witness_shaped (enc := enc) (C := Tryd.checked) (os := os) (X := fun w _ => laidMetH Tryd.prog Rows.keyBackRow.laid w) false (World.laidAll Tryd.prog os Rows.keyBackRow.laid) #[.agg #[.int .i64 0, .int .i64 0, .int .i64 0, .string ⟨#[]⟩, .slice none 0 0, .slice none 0 0], .slice none 0 0] 8 (World.laidAll_os _ _ _)
      (World.shaped_of_ZipB (by kernel_rfl) (by kernel_rfl)) (by kernel_rfl) (by kernel_rfl) (by kernel_rfl)
      (by rw [MakeChecks.laidMetH_plain _ _ _ (by kernel_rfl)]; exact laidMet_laidAll _ (by kernel_rfl) (by kernel_rfl))) ?_
  intro W base args ds gs before hval hW _ hwt hL _
  rw [MakeChecks.laidMetH_plain _ _ _ (by kernel_rfl)] at hL
  exact contract H enc W base args ds gs before hval hW hwt hL

theorem held : Rows.KeyBackSaid :=
  OpenClaim.holds_of_wide 10 Tryd.f10 rfl rfl rfl rfl rfl rfl rfl ⟨rfl, rfl, rfl, rfl, rfl⟩ rfl rfl rfl rfl rfl (by kernel_rfl) Tryd.func10 (by kernel_rfl)
    (of_decide_eq_true (by kernel_rfl)) (by unfold Func.isWrapper; first | (rw [if_pos (by decide +kernel)]; kernel_rfl) | (rw [if_neg (by decide +kernel)]; exact ⟨rfl, rfl⟩))
    (fun os started H enc _ => lifted os started H enc)

theorem proved : Rows.KeyBackCardSaid :=
  Claim7.holds_tied_plain_at .later [] [.data, .data, .data, .data, .data, .pinned] true (true, "33cbc621b9bc39ae48fe9ba45c9769d29fa43c0c058c91d33155a8a46bced9f6") false
    held (fun _ h => by cases h) (by kernel_rfl) (fun _ h => by cases h) keyBack_row_tie rfl ⟨rfl, rfl⟩ (by kernel_rfl) rfl
    (fun f fn hf hfn => by
      obtain rfl : f = 10 := Option.some.inj ((show Tryd.prog.funcNamed "thimble/thimblelaw05.KeyBack" = some 10 by kernel_rfl).symm.trans hf) |>.symm
      obtain rfl : fn = Tryd.f10 := (Option.some.inj (Tryd.func10.symm.trans hfn)).symm
      exact ⟨by kernel_rfl, fun j t ht => by
        rw [Tryd.params10] at ht
        have hm : t ∈ [27, 48] := by simpa using Array.mem_of_getElem? ht
        have hall : ([27, 48].all fun u => !Tryd.prog.wantsStandIn u) = true := by kernel_rfl
        exact (show Tryd.prog.wantsStandIn t = false by simpa using List.all_eq_true.1 hall t hm)⟩)
    (by kernel_rfl)
end Go.Proofs.YtjhoaohpfbgfpaaDoor.keyBack
