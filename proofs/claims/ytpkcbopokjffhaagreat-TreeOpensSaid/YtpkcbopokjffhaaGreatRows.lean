/-
  No cell of these rows narrows 'for every input' (looked for: loops, veiled, ifaces, maps, wideKeys, modest, calm, conditions, laid).
  DERIVED. THE GIVEN ROWS OF THIS SEAT. 7 by the template 'for every input the law returns true; each argument reads behind the call as it read before'; 0 by the template 'total and deterministic' (their statements: YtpkcbopokjffhaaGreatTotals.lean).
  GIVEN WITH THE SEED: the statements are not yours to turn. If you find one false, say at which input.
  Laid BY PROGRAM, IN A SANDBOX (cutbox-rows.mjs): the forced cells as the released guide's own fill.sh prints them over the translation 26346177dbb0f8a1… (all of the seat's roots in one cut). By AI agents, Wed Nov 11 2026. No macro, syntax, notation, axiom, sorry.
-/
import Derived.Test.YtpkcbopokjffhaaGreatChecked
import GoSem.Claim
import GoSem.ClaimJoined
import GoSem.ClaimMapViews
import Derived.JoinedTies
import Derived.KernelRfl
namespace Go.Proofs.YtpkcbopokjffhaaGreat
/- THE CELL 'sum', in the pinned program and in every row, IS THE sha256 OF THE DUMP (.gsa) THAT YtpkcbopokjffhaaGreatProg.lean LOADS. Nothing in Lean hashes anything: it is a label: what it is worth is what the hold of that sum in a sandbox is worth. -/
noncomputable def Tryz.pinned : Pinned := { name := "ytpkcbopokjffhaagreat", sum := "26346177dbb0f8a18cbfbefddd38d0fad6384c701882024de2a436a849eff025", checked := Tryz.checked }
namespace Rows
def none {H : Type} : Left H := { results := [], args := [] }

/-- 'thimblelaw22.TreePlays': WHATEVER THE INPUT: true; the input reads as it did. -/
def treePlaysSpec : ChangeSpec := { name := "treePlays", fn := fun _ => fun
  | [d1, d2] => { results := [.lit (.bool true)], args := [d1, d2] }
  | _ => none }
def treePlaysRow : OpenClaim := { program := "ytpkcbopokjffhaagreat", sum := "26346177dbb0f8a18cbfbefddd38d0fad6384c701882024de2a436a849eff025", func := "thimble/thimblelaw22.TreePlays", spec := "treePlays", inPlace := ["maps.clone", "internal/bytealg.Compare", "slices.overlaps[[]byte]", "slices.overlaps[int]"], unfollowed := true, recurses := true, apart := false }
def TreePlaysSaid : Prop := treePlaysRow.holds Tryz.pinned (OpenSpec.ofChange treePlaysSpec)

/-- ITS FALSE NEIGHBOUR: 'it returns false'. Refute it at one input. -/
def treePlaysWrong : ChangeSpec := { name := "treePlays", fn := fun _ => fun
  | [d1, d2] => { results := [.lit (.bool false)], args := [d1, d2] }
  | _ => none }
def TreePlaysWrongFalsely : Prop := treePlaysRow.holds Tryz.pinned (OpenSpec.ofChange treePlaysWrong)

/-- 'thimblelaw22.TreeHigh': WHATEVER THE INPUT: true; the input reads as it did. -/
def treeHighSpec : ChangeSpec := { name := "treeHigh", fn := fun _ => fun
  | [d] => { results := [.lit (.bool true)], args := [d] }
  | _ => none }
def treeHighRow : OpenClaim := { program := "ytpkcbopokjffhaagreat", sum := "26346177dbb0f8a18cbfbefddd38d0fad6384c701882024de2a436a849eff025", func := "thimble/thimblelaw22.TreeHigh", spec := "treeHigh", inPlace := ["maps.clone", "internal/bytealg.Compare", "slices.overlaps[[]byte]", "slices.overlaps[int]"], unfollowed := true, recurses := true, apart := false }
def TreeHighSaid : Prop := treeHighRow.holds Tryz.pinned (OpenSpec.ofChange treeHighSpec)

/-- ITS FALSE NEIGHBOUR: 'it returns false'. Refute it at one input. -/
def treeHighWrong : ChangeSpec := { name := "treeHigh", fn := fun _ => fun
  | [d] => { results := [.lit (.bool false)], args := [d] }
  | _ => none }
def TreeHighWrongFalsely : Prop := treeHighRow.holds Tryz.pinned (OpenSpec.ofChange treeHighWrong)

/-- 'thimblelaw22.TreeFull': WHATEVER THE INPUT: true; the input reads as it did. -/
def treeFullSpec : ChangeSpec := { name := "treeFull", fn := fun _ => fun
  | [d1, d2, d3, d4] => { results := [.lit (.bool true)], args := [d1, d2, d3, d4] }
  | _ => none }
def treeFullRow : OpenClaim := { program := "ytpkcbopokjffhaagreat", sum := "26346177dbb0f8a18cbfbefddd38d0fad6384c701882024de2a436a849eff025", func := "thimble/thimblelaw22.TreeFull", spec := "treeFull", inPlace := ["maps.clone", "internal/bytealg.Compare", "slices.overlaps[[]byte]", "slices.overlaps[int]"], unfollowed := true, recurses := true, apart := false }
def TreeFullSaid : Prop := treeFullRow.holds Tryz.pinned (OpenSpec.ofChange treeFullSpec)

/-- ITS FALSE NEIGHBOUR: 'it returns false'. Refute it at one input. -/
def treeFullWrong : ChangeSpec := { name := "treeFull", fn := fun _ => fun
  | [d1, d2, d3, d4] => { results := [.lit (.bool false)], args := [d1, d2, d3, d4] }
  | _ => none }
def TreeFullWrongFalsely : Prop := treeFullRow.holds Tryz.pinned (OpenSpec.ofChange treeFullWrong)

/-- 'thimblelaw22.TreeReads': WHATEVER THE INPUT: true; the input reads as it did. -/
def treeReadsSpec : ChangeSpec := { name := "treeReads", fn := fun _ => fun
  | [d1, d2] => { results := [.lit (.bool true)], args := [d1, d2] }
  | _ => none }
def treeReadsRow : OpenClaim := { program := "ytpkcbopokjffhaagreat", sum := "26346177dbb0f8a18cbfbefddd38d0fad6384c701882024de2a436a849eff025", func := "thimble/thimblelaw22.TreeReads", spec := "treeReads", inPlace := ["maps.clone", "internal/bytealg.Compare", "slices.overlaps[[]byte]", "slices.overlaps[int]"], unfollowed := true, recurses := true, apart := false }
def TreeReadsSaid : Prop := treeReadsRow.holds Tryz.pinned (OpenSpec.ofChange treeReadsSpec)

/-- ITS FALSE NEIGHBOUR: 'it returns false'. Refute it at one input. -/
def treeReadsWrong : ChangeSpec := { name := "treeReads", fn := fun _ => fun
  | [d1, d2] => { results := [.lit (.bool false)], args := [d1, d2] }
  | _ => none }
def TreeReadsWrongFalsely : Prop := treeReadsRow.holds Tryz.pinned (OpenSpec.ofChange treeReadsWrong)

/-- 'thimblelaw22.TreeOpens': WHATEVER THE INPUT: true; the input reads as it did. -/
def treeOpensSpec : ChangeSpec := { name := "treeOpens", fn := fun _ => fun
  | [d1, d2] => { results := [.lit (.bool true)], args := [d1, d2] }
  | _ => none }
def treeOpensRow : OpenClaim := { program := "ytpkcbopokjffhaagreat", sum := "26346177dbb0f8a18cbfbefddd38d0fad6384c701882024de2a436a849eff025", func := "thimble/thimblelaw22.TreeOpens", spec := "treeOpens", inPlace := ["maps.clone", "internal/bytealg.Compare", "slices.overlaps[[]byte]", "slices.overlaps[int]"], unfollowed := true, recurses := true, apart := false }
def TreeOpensSaid : Prop := treeOpensRow.holds Tryz.pinned (OpenSpec.ofChange treeOpensSpec)

/-- ITS FALSE NEIGHBOUR: 'it returns false'. Refute it at one input. -/
def treeOpensWrong : ChangeSpec := { name := "treeOpens", fn := fun _ => fun
  | [d1, d2] => { results := [.lit (.bool false)], args := [d1, d2] }
  | _ => none }
def TreeOpensWrongFalsely : Prop := treeOpensRow.holds Tryz.pinned (OpenSpec.ofChange treeOpensWrong)

/-- 'thimblelaw22.TreeNobody': WHATEVER THE INPUT: true; the input reads as it did. -/
def treeNobodySpec : ChangeSpec := { name := "treeNobody", fn := fun _ => fun
  | [d1, d2, d3] => { results := [.lit (.bool true)], args := [d1, d2, d3] }
  | _ => none }
def treeNobodyRow : OpenClaim := { program := "ytpkcbopokjffhaagreat", sum := "26346177dbb0f8a18cbfbefddd38d0fad6384c701882024de2a436a849eff025", func := "thimble/thimblelaw22.TreeNobody", spec := "treeNobody", inPlace := ["internal/bytealg.Compare", "slices.overlaps[[]byte]", "slices.overlaps[int]", "maps.clone"], unfollowed := true, recurses := true, apart := false }
def TreeNobodySaid : Prop := treeNobodyRow.holds Tryz.pinned (OpenSpec.ofChange treeNobodySpec)

/-- ITS FALSE NEIGHBOUR: 'it returns false'. Refute it at one input. -/
def treeNobodyWrong : ChangeSpec := { name := "treeNobody", fn := fun _ => fun
  | [d1, d2, d3] => { results := [.lit (.bool false)], args := [d1, d2, d3] }
  | _ => none }
def TreeNobodyWrongFalsely : Prop := treeNobodyRow.holds Tryz.pinned (OpenSpec.ofChange treeNobodyWrong)

/-- 'thimblelaw22.TreeRoom': WHATEVER THE INPUT: true; the input reads as it did. -/
def treeRoomSpec : ChangeSpec := { name := "treeRoom", fn := fun _ => fun
  | [d] => { results := [.lit (.bool true)], args := [d] }
  | _ => none }
def treeRoomRow : OpenClaim := { program := "ytpkcbopokjffhaagreat", sum := "26346177dbb0f8a18cbfbefddd38d0fad6384c701882024de2a436a849eff025", func := "thimble/thimblelaw22.TreeRoom", spec := "treeRoom", inPlace := ["maps.clone", "internal/bytealg.Compare", "slices.overlaps[[]byte]", "slices.overlaps[int]"], unfollowed := true, recurses := true, apart := false }
def TreeRoomSaid : Prop := treeRoomRow.holds Tryz.pinned (OpenSpec.ofChange treeRoomSpec)

/-- ITS FALSE NEIGHBOUR: 'it returns false'. Refute it at one input. -/
def treeRoomWrong : ChangeSpec := { name := "treeRoom", fn := fun _ => fun
  | [d] => { results := [.lit (.bool false)], args := [d] }
  | _ => none }
def TreeRoomWrongFalsely : Prop := treeRoomRow.holds Tryz.pinned (OpenSpec.ofChange treeRoomWrong)

/- THE SECOND FORM. 'bulk': how many values and letters a reading holds, each counted each time it is reached (what is shared counts as often as it is met; a slice's spare places count too). A statement '..UptoSaid' is the law's where the arguments, and the package variables that the reading takes, are together of bulk at most 1048576: NARROWER than '..Said'. Prove '..Said' where nothing that the law and all that it calls make is longer than what came in: it says more and counts as full. Else prove '..UptoSaid'. A law counts once. -/
mutual
def uptoBulk {H : Type} : DataW H → Nat
  | .lit (.string bytes) => bytes.length + 1
  | .lit _ => 1
  | .nil => 1
  | .ptr d => uptoBulk d + 1
  | .slice elems spare => uptoBulkAll elems + uptoBulkAll spare + 1
  | .agg parts => uptoBulkAll parts + 1
  | .iface _ d => uptoBulk d + 1
  | .map entries => uptoBulkEntries entries + 1
  | .held _ => 1
def uptoBulkAll {H : Type} : List (DataW H) → Nat
  | [] => 0
  | d :: r => uptoBulk d + uptoBulkAll r
def uptoBulkEntries {H : Type} : List (Lit × DataW H) → Nat
  | [] => 0
  | x :: r => uptoBulkEntry x + uptoBulkEntries r
def uptoBulkEntry {H : Type} : Lit × DataW H → Nat
  | (.string bytes, d) => bytes.length + uptoBulk d + 1
  | (_, d) => uptoBulk d + 1
 end
def uptoSmall : (H : Type) → List (DataW H) → Bool := fun _ ds => decide (uptoBulkAll ds ≤ 1048576)
def OpenSpec.upto (s : _root_.Go.ChangeSpec) : _root_.Go.OpenSpec := { _root_.Go.OpenSpec.ofChange s with cond := some uptoSmall }

/-- 'thimblelaw22.TreePlays', WHERE WHAT IT READS IS OF BULK AT MOST 1048576: true; the input reads as it did. -/
def treePlaysUptoRow : OpenClaim := { program := "ytpkcbopokjffhaagreat", sum := "26346177dbb0f8a18cbfbefddd38d0fad6384c701882024de2a436a849eff025", func := "thimble/thimblelaw22.TreePlays", spec := "treePlays", inPlace := ["maps.clone", "internal/bytealg.Compare", "slices.overlaps[[]byte]", "slices.overlaps[int]"], unfollowed := true, recurses := true, apart := false, narrowed := true }
def TreePlaysUptoSaid : Prop := treePlaysUptoRow.holds Tryz.pinned (OpenSpec.upto treePlaysSpec)

/-- 'thimblelaw22.TreeHigh', WHERE WHAT IT READS IS OF BULK AT MOST 1048576: true; the input reads as it did. -/
def treeHighUptoRow : OpenClaim := { program := "ytpkcbopokjffhaagreat", sum := "26346177dbb0f8a18cbfbefddd38d0fad6384c701882024de2a436a849eff025", func := "thimble/thimblelaw22.TreeHigh", spec := "treeHigh", inPlace := ["maps.clone", "internal/bytealg.Compare", "slices.overlaps[[]byte]", "slices.overlaps[int]"], unfollowed := true, recurses := true, apart := false, narrowed := true }
def TreeHighUptoSaid : Prop := treeHighUptoRow.holds Tryz.pinned (OpenSpec.upto treeHighSpec)

/-- 'thimblelaw22.TreeFull', WHERE WHAT IT READS IS OF BULK AT MOST 1048576: true; the input reads as it did. -/
def treeFullUptoRow : OpenClaim := { program := "ytpkcbopokjffhaagreat", sum := "26346177dbb0f8a18cbfbefddd38d0fad6384c701882024de2a436a849eff025", func := "thimble/thimblelaw22.TreeFull", spec := "treeFull", inPlace := ["maps.clone", "internal/bytealg.Compare", "slices.overlaps[[]byte]", "slices.overlaps[int]"], unfollowed := true, recurses := true, apart := false, narrowed := true }
def TreeFullUptoSaid : Prop := treeFullUptoRow.holds Tryz.pinned (OpenSpec.upto treeFullSpec)

/-- 'thimblelaw22.TreeReads', WHERE WHAT IT READS IS OF BULK AT MOST 1048576: true; the input reads as it did. -/
def treeReadsUptoRow : OpenClaim := { program := "ytpkcbopokjffhaagreat", sum := "26346177dbb0f8a18cbfbefddd38d0fad6384c701882024de2a436a849eff025", func := "thimble/thimblelaw22.TreeReads", spec := "treeReads", inPlace := ["maps.clone", "internal/bytealg.Compare", "slices.overlaps[[]byte]", "slices.overlaps[int]"], unfollowed := true, recurses := true, apart := false, narrowed := true }
def TreeReadsUptoSaid : Prop := treeReadsUptoRow.holds Tryz.pinned (OpenSpec.upto treeReadsSpec)

/-- 'thimblelaw22.TreeOpens', WHERE WHAT IT READS IS OF BULK AT MOST 1048576: true; the input reads as it did. -/
def treeOpensUptoRow : OpenClaim := { program := "ytpkcbopokjffhaagreat", sum := "26346177dbb0f8a18cbfbefddd38d0fad6384c701882024de2a436a849eff025", func := "thimble/thimblelaw22.TreeOpens", spec := "treeOpens", inPlace := ["maps.clone", "internal/bytealg.Compare", "slices.overlaps[[]byte]", "slices.overlaps[int]"], unfollowed := true, recurses := true, apart := false, narrowed := true }
def TreeOpensUptoSaid : Prop := treeOpensUptoRow.holds Tryz.pinned (OpenSpec.upto treeOpensSpec)

/-- 'thimblelaw22.TreeNobody', WHERE WHAT IT READS IS OF BULK AT MOST 1048576: true; the input reads as it did. -/
def treeNobodyUptoRow : OpenClaim := { program := "ytpkcbopokjffhaagreat", sum := "26346177dbb0f8a18cbfbefddd38d0fad6384c701882024de2a436a849eff025", func := "thimble/thimblelaw22.TreeNobody", spec := "treeNobody", inPlace := ["internal/bytealg.Compare", "slices.overlaps[[]byte]", "slices.overlaps[int]", "maps.clone"], unfollowed := true, recurses := true, apart := false, narrowed := true }
def TreeNobodyUptoSaid : Prop := treeNobodyUptoRow.holds Tryz.pinned (OpenSpec.upto treeNobodySpec)

/-- 'thimblelaw22.TreeRoom', WHERE WHAT IT READS IS OF BULK AT MOST 1048576: true; the input reads as it did. -/
def treeRoomUptoRow : OpenClaim := { program := "ytpkcbopokjffhaagreat", sum := "26346177dbb0f8a18cbfbefddd38d0fad6384c701882024de2a436a849eff025", func := "thimble/thimblelaw22.TreeRoom", spec := "treeRoom", inPlace := ["maps.clone", "internal/bytealg.Compare", "slices.overlaps[[]byte]", "slices.overlaps[int]"], unfollowed := true, recurses := true, apart := false, narrowed := true }
def TreeRoomUptoSaid : Prop := treeRoomUptoRow.holds Tryz.pinned (OpenSpec.upto treeRoomSpec)

end Rows
end Go.Proofs.YtpkcbopokjffhaaGreat
