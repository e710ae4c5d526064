/-
  No cell of these rows narrows 'for every input' (looked for: loops, veiled, ifaces, maps, wideKeys, modest, calm, conditions, laid).
  DERIVED. THE GIVEN ROWS OF THIS SEAT. 7 by the template 'for every input the law returns true; each argument reads behind the call as it read before'; 0 by the template 'total and deterministic' (their statements: YteekdjalpmjdhaaGreatTotals.lean).
  GIVEN WITH THE SEED: the statements are not yours to turn. If you find one false, say at which input.
  Laid BY PROGRAM, IN A SANDBOX (cutbox-rows.mjs): the forced cells as the released guide's own fill.sh prints them over the translation 170a1344cd9c1de6… (all of the seat's roots in one cut). By AI agents, Wed Nov 11 2026. No macro, syntax, notation, axiom, sorry.
-/
import Derived.Test.YteekdjalpmjdhaaGreatChecked
import GoSem.Claim
import GoSem.ClaimJoined
import GoSem.ClaimMapViews
import Derived.JoinedTies
import Derived.KernelRfl
namespace Go.Proofs.YteekdjalpmjdhaaGreat
/- THE CELL 'sum', in the pinned program and in every row, IS THE sha256 OF THE DUMP (.gsa) THAT YteekdjalpmjdhaaGreatProg.lean LOADS. Nothing in Lean hashes anything: it is a label: what it is worth is what the hold of that sum in a sandbox is worth. -/
noncomputable def Tryz.pinned : Pinned := { name := "yteekdjalpmjdhaagreat", sum := "170a1344cd9c1de60c15e1515f2a4fe60daf10c98b9d99e4453e9df9fd227e44", checked := Tryz.checked }
namespace Rows
def none {H : Type} : Left H := { results := [], args := [] }

/-- 'thimblelaw22.TreeRoom': WHATEVER THE INPUT: true; the input reads as it did. -/
def treeRoomSpec : ChangeSpec := { name := "treeRoom", fn := fun _ => fun
  | [d] => { results := [.lit (.bool true)], args := [d] }
  | _ => none }
def treeRoomRow : OpenClaim := { program := "yteekdjalpmjdhaagreat", sum := "170a1344cd9c1de60c15e1515f2a4fe60daf10c98b9d99e4453e9df9fd227e44", func := "thimble/thimblelaw22.TreeRoom", spec := "treeRoom", inPlace := ["maps.clone", "internal/bytealg.Compare", "slices.overlaps[[]byte]", "slices.overlaps[int]"], unfollowed := true, recurses := true, apart := false }
def TreeRoomSaid : Prop := treeRoomRow.holds Tryz.pinned (OpenSpec.ofChange treeRoomSpec)

/-- ITS FALSE NEIGHBOUR: 'it returns false'. Refute it at one input. -/
def treeRoomWrong : ChangeSpec := { name := "treeRoom", fn := fun _ => fun
  | [d] => { results := [.lit (.bool false)], args := [d] }
  | _ => none }
def TreeRoomWrongFalsely : Prop := treeRoomRow.holds Tryz.pinned (OpenSpec.ofChange treeRoomWrong)

/-- 'thimblelaw23.BulkLoads': WHATEVER THE INPUT: true; the input reads as it did. -/
def bulkLoadsSpec : ChangeSpec := { name := "bulkLoads", fn := fun _ => fun
  | [d1, d2] => { results := [.lit (.bool true)], args := [d1, d2] }
  | _ => none }
def bulkLoadsRow : OpenClaim := { program := "yteekdjalpmjdhaagreat", sum := "170a1344cd9c1de60c15e1515f2a4fe60daf10c98b9d99e4453e9df9fd227e44", func := "thimble/thimblelaw23.BulkLoads", spec := "bulkLoads", inPlace := ["maps.clone", "internal/bytealg.Compare"], unfollowed := true, recurses := true, apart := false }
def BulkLoadsSaid : Prop := bulkLoadsRow.holds Tryz.pinned (OpenSpec.ofChange bulkLoadsSpec)

/-- ITS FALSE NEIGHBOUR: 'it returns false'. Refute it at one input. -/
def bulkLoadsWrong : ChangeSpec := { name := "bulkLoads", fn := fun _ => fun
  | [d1, d2] => { results := [.lit (.bool false)], args := [d1, d2] }
  | _ => none }
def BulkLoadsWrongFalsely : Prop := bulkLoadsRow.holds Tryz.pinned (OpenSpec.ofChange bulkLoadsWrong)

/-- 'thimblelaw23.BulkNobody': WHATEVER THE INPUT: true; the input reads as it did. -/
def bulkNobodySpec : ChangeSpec := { name := "bulkNobody", fn := fun _ => fun
  | [d1, d2] => { results := [.lit (.bool true)], args := [d1, d2] }
  | _ => none }
def bulkNobodyRow : OpenClaim := { program := "yteekdjalpmjdhaagreat", sum := "170a1344cd9c1de60c15e1515f2a4fe60daf10c98b9d99e4453e9df9fd227e44", func := "thimble/thimblelaw23.BulkNobody", spec := "bulkNobody", inPlace := ["maps.clone", "internal/bytealg.Compare"], unfollowed := true, recurses := true, apart := false }
def BulkNobodySaid : Prop := bulkNobodyRow.holds Tryz.pinned (OpenSpec.ofChange bulkNobodySpec)

/-- ITS FALSE NEIGHBOUR: 'it returns false'. Refute it at one input. -/
def bulkNobodyWrong : ChangeSpec := { name := "bulkNobody", fn := fun _ => fun
  | [d1, d2] => { results := [.lit (.bool false)], args := [d1, d2] }
  | _ => none }
def BulkNobodyWrongFalsely : Prop := bulkNobodyRow.holds Tryz.pinned (OpenSpec.ofChange bulkNobodyWrong)

/-- 'thimblelaw23.BulkRanges': WHATEVER THE INPUT: true; the input reads as it did. -/
def bulkRangesSpec : ChangeSpec := { name := "bulkRanges", fn := fun _ => fun
  | [d1, d2, d3, d4] => { results := [.lit (.bool true)], args := [d1, d2, d3, d4] }
  | _ => none }
def bulkRangesRow : OpenClaim := { program := "yteekdjalpmjdhaagreat", sum := "170a1344cd9c1de60c15e1515f2a4fe60daf10c98b9d99e4453e9df9fd227e44", func := "thimble/thimblelaw23.BulkRanges", spec := "bulkRanges", inPlace := ["maps.clone", "internal/bytealg.Compare", "slices.overlaps[[]byte]", "slices.overlaps[int]"], unfollowed := true, recurses := true, apart := false }
def BulkRangesSaid : Prop := bulkRangesRow.holds Tryz.pinned (OpenSpec.ofChange bulkRangesSpec)

/-- ITS FALSE NEIGHBOUR: 'it returns false'. Refute it at one input. -/
def bulkRangesWrong : ChangeSpec := { name := "bulkRanges", fn := fun _ => fun
  | [d1, d2, d3, d4] => { results := [.lit (.bool false)], args := [d1, d2, d3, d4] }
  | _ => none }
def BulkRangesWrongFalsely : Prop := bulkRangesRow.holds Tryz.pinned (OpenSpec.ofChange bulkRangesWrong)

/-- 'thimblelaw23.BulkTouches': WHATEVER THE INPUT: true; the input reads as it did. -/
def bulkTouchesSpec : ChangeSpec := { name := "bulkTouches", fn := fun _ => fun
  | [d1, d2, d3, d4] => { results := [.lit (.bool true)], args := [d1, d2, d3, d4] }
  | _ => none }
def bulkTouchesRow : OpenClaim := { program := "yteekdjalpmjdhaagreat", sum := "170a1344cd9c1de60c15e1515f2a4fe60daf10c98b9d99e4453e9df9fd227e44", func := "thimble/thimblelaw23.BulkTouches", spec := "bulkTouches", inPlace := ["maps.clone", "internal/bytealg.Compare", "slices.overlaps[[]byte]", "slices.overlaps[int]"], unfollowed := true, recurses := true, apart := false }
def BulkTouchesSaid : Prop := bulkTouchesRow.holds Tryz.pinned (OpenSpec.ofChange bulkTouchesSpec)

/-- ITS FALSE NEIGHBOUR: 'it returns false'. Refute it at one input. -/
def bulkTouchesWrong : ChangeSpec := { name := "bulkTouches", fn := fun _ => fun
  | [d1, d2, d3, d4] => { results := [.lit (.bool false)], args := [d1, d2, d3, d4] }
  | _ => none }
def BulkTouchesWrongFalsely : Prop := bulkTouchesRow.holds Tryz.pinned (OpenSpec.ofChange bulkTouchesWrong)

/-- 'thimblelaw23.BulkSound': WHATEVER THE INPUT: true; the input reads as it did. -/
def bulkSoundSpec : ChangeSpec := { name := "bulkSound", fn := fun _ => fun
  | [d1, d2] => { results := [.lit (.bool true)], args := [d1, d2] }
  | _ => none }
def bulkSoundRow : OpenClaim := { program := "yteekdjalpmjdhaagreat", sum := "170a1344cd9c1de60c15e1515f2a4fe60daf10c98b9d99e4453e9df9fd227e44", func := "thimble/thimblelaw23.BulkSound", spec := "bulkSound", inPlace := ["maps.clone", "internal/bytealg.Compare", "slices.overlaps[[]byte]", "slices.overlaps[int]"], unfollowed := true, recurses := true, apart := false }
def BulkSoundSaid : Prop := bulkSoundRow.holds Tryz.pinned (OpenSpec.ofChange bulkSoundSpec)

/-- ITS FALSE NEIGHBOUR: 'it returns false'. Refute it at one input. -/
def bulkSoundWrong : ChangeSpec := { name := "bulkSound", fn := fun _ => fun
  | [d1, d2] => { results := [.lit (.bool false)], args := [d1, d2] }
  | _ => none }
def BulkSoundWrongFalsely : Prop := bulkSoundRow.holds Tryz.pinned (OpenSpec.ofChange bulkSoundWrong)

/-- 'thimblelaw23.BulkDrops': WHATEVER THE INPUT: true; the input reads as it did. -/
def bulkDropsSpec : ChangeSpec := { name := "bulkDrops", fn := fun _ => fun
  | [d] => { results := [.lit (.bool true)], args := [d] }
  | _ => none }
def bulkDropsRow : OpenClaim := { program := "yteekdjalpmjdhaagreat", sum := "170a1344cd9c1de60c15e1515f2a4fe60daf10c98b9d99e4453e9df9fd227e44", func := "thimble/thimblelaw23.BulkDrops", spec := "bulkDrops", inPlace := ["maps.clone", "internal/bytealg.Compare", "slices.overlaps[[]byte]", "slices.overlaps[int]"], unfollowed := true, recurses := true, apart := false }
def BulkDropsSaid : Prop := bulkDropsRow.holds Tryz.pinned (OpenSpec.ofChange bulkDropsSpec)

/-- ITS FALSE NEIGHBOUR: 'it returns false'. Refute it at one input. -/
def bulkDropsWrong : ChangeSpec := { name := "bulkDrops", fn := fun _ => fun
  | [d] => { results := [.lit (.bool false)], args := [d] }
  | _ => none }
def BulkDropsWrongFalsely : Prop := bulkDropsRow.holds Tryz.pinned (OpenSpec.ofChange bulkDropsWrong)

/- THE SECOND FORM. 'bulk': how many values and letters a reading holds, each counted each time it is reached (what is shared counts as often as it is met; a slice's spare places count too). A statement '..UptoSaid' is the law's where the arguments, and the package variables that the reading takes, are together of bulk at most 1048576: NARROWER than '..Said'. Prove '..Said' where nothing that the law and all that it calls make is longer than what came in: it says more and counts as full. Else prove '..UptoSaid'. A law counts once. -/
mutual
def uptoBulk {H : Type} : DataW H → Nat
  | .lit (.string bytes) => bytes.length + 1
  | .lit _ => 1
  | .nil => 1
  | .ptr d => uptoBulk d + 1
  | .slice elems spare => uptoBulkAll elems + uptoBulkAll spare + 1
  | .agg parts => uptoBulkAll parts + 1
  | .iface _ d => uptoBulk d + 1
  | .map entries => uptoBulkEntries entries + 1
  | .held _ => 1
def uptoBulkAll {H : Type} : List (DataW H) → Nat
  | [] => 0
  | d :: r => uptoBulk d + uptoBulkAll r
def uptoBulkEntries {H : Type} : List (Lit × DataW H) → Nat
  | [] => 0
  | x :: r => uptoBulkEntry x + uptoBulkEntries r
def uptoBulkEntry {H : Type} : Lit × DataW H → Nat
  | (.string bytes, d) => bytes.length + uptoBulk d + 1
  | (_, d) => uptoBulk d + 1
 end
def uptoSmall : (H : Type) → List (DataW H) → Bool := fun _ ds => decide (uptoBulkAll ds ≤ 1048576)
def OpenSpec.upto (s : _root_.Go.ChangeSpec) : _root_.Go.OpenSpec := { _root_.Go.OpenSpec.ofChange s with cond := some uptoSmall }

/-- 'thimblelaw22.TreeRoom', WHERE WHAT IT READS IS OF BULK AT MOST 1048576: true; the input reads as it did. -/
def treeRoomUptoRow : OpenClaim := { program := "yteekdjalpmjdhaagreat", sum := "170a1344cd9c1de60c15e1515f2a4fe60daf10c98b9d99e4453e9df9fd227e44", func := "thimble/thimblelaw22.TreeRoom", spec := "treeRoom", inPlace := ["maps.clone", "internal/bytealg.Compare", "slices.overlaps[[]byte]", "slices.overlaps[int]"], unfollowed := true, recurses := true, apart := false, narrowed := true }
def TreeRoomUptoSaid : Prop := treeRoomUptoRow.holds Tryz.pinned (OpenSpec.upto treeRoomSpec)

/-- 'thimblelaw23.BulkLoads', WHERE WHAT IT READS IS OF BULK AT MOST 1048576: true; the input reads as it did. -/
def bulkLoadsUptoRow : OpenClaim := { program := "yteekdjalpmjdhaagreat", sum := "170a1344cd9c1de60c15e1515f2a4fe60daf10c98b9d99e4453e9df9fd227e44", func := "thimble/thimblelaw23.BulkLoads", spec := "bulkLoads", inPlace := ["maps.clone", "internal/bytealg.Compare"], unfollowed := true, recurses := true, apart := false, narrowed := true }
def BulkLoadsUptoSaid : Prop := bulkLoadsUptoRow.holds Tryz.pinned (OpenSpec.upto bulkLoadsSpec)

/-- 'thimblelaw23.BulkNobody', WHERE WHAT IT READS IS OF BULK AT MOST 1048576: true; the input reads as it did. -/
def bulkNobodyUptoRow : OpenClaim := { program := "yteekdjalpmjdhaagreat", sum := "170a1344cd9c1de60c15e1515f2a4fe60daf10c98b9d99e4453e9df9fd227e44", func := "thimble/thimblelaw23.BulkNobody", spec := "bulkNobody", inPlace := ["maps.clone", "internal/bytealg.Compare"], unfollowed := true, recurses := true, apart := false, narrowed := true }
def BulkNobodyUptoSaid : Prop := bulkNobodyUptoRow.holds Tryz.pinned (OpenSpec.upto bulkNobodySpec)

/-- 'thimblelaw23.BulkRanges', WHERE WHAT IT READS IS OF BULK AT MOST 1048576: true; the input reads as it did. -/
def bulkRangesUptoRow : OpenClaim := { program := "yteekdjalpmjdhaagreat", sum := "170a1344cd9c1de60c15e1515f2a4fe60daf10c98b9d99e4453e9df9fd227e44", func := "thimble/thimblelaw23.BulkRanges", spec := "bulkRanges", inPlace := ["maps.clone", "internal/bytealg.Compare", "slices.overlaps[[]byte]", "slices.overlaps[int]"], unfollowed := true, recurses := true, apart := false, narrowed := true }
def BulkRangesUptoSaid : Prop := bulkRangesUptoRow.holds Tryz.pinned (OpenSpec.upto bulkRangesSpec)

/-- 'thimblelaw23.BulkTouches', WHERE WHAT IT READS IS OF BULK AT MOST 1048576: true; the input reads as it did. -/
def bulkTouchesUptoRow : OpenClaim := { program := "yteekdjalpmjdhaagreat", sum := "170a1344cd9c1de60c15e1515f2a4fe60daf10c98b9d99e4453e9df9fd227e44", func := "thimble/thimblelaw23.BulkTouches", spec := "bulkTouches", inPlace := ["maps.clone", "internal/bytealg.Compare", "slices.overlaps[[]byte]", "slices.overlaps[int]"], unfollowed := true, recurses := true, apart := false, narrowed := true }
def BulkTouchesUptoSaid : Prop := bulkTouchesUptoRow.holds Tryz.pinned (OpenSpec.upto bulkTouchesSpec)

/-- 'thimblelaw23.BulkSound', WHERE WHAT IT READS IS OF BULK AT MOST 1048576: true; the input reads as it did. -/
def bulkSoundUptoRow : OpenClaim := { program := "yteekdjalpmjdhaagreat", sum := "170a1344cd9c1de60c15e1515f2a4fe60daf10c98b9d99e4453e9df9fd227e44", func := "thimble/thimblelaw23.BulkSound", spec := "bulkSound", inPlace := ["maps.clone", "internal/bytealg.Compare", "slices.overlaps[[]byte]", "slices.overlaps[int]"], unfollowed := true, recurses := true, apart := false, narrowed := true }
def BulkSoundUptoSaid : Prop := bulkSoundUptoRow.holds Tryz.pinned (OpenSpec.upto bulkSoundSpec)

/-- 'thimblelaw23.BulkDrops', WHERE WHAT IT READS IS OF BULK AT MOST 1048576: true; the input reads as it did. -/
def bulkDropsUptoRow : OpenClaim := { program := "yteekdjalpmjdhaagreat", sum := "170a1344cd9c1de60c15e1515f2a4fe60daf10c98b9d99e4453e9df9fd227e44", func := "thimble/thimblelaw23.BulkDrops", spec := "bulkDrops", inPlace := ["maps.clone", "internal/bytealg.Compare", "slices.overlaps[[]byte]", "slices.overlaps[int]"], unfollowed := true, recurses := true, apart := false, narrowed := true }
def BulkDropsUptoSaid : Prop := bulkDropsUptoRow.holds Tryz.pinned (OpenSpec.upto bulkDropsSpec)

end Rows
end Go.Proofs.YteekdjalpmjdhaaGreat
