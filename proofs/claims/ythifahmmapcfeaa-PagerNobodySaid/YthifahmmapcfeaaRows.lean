/-
  No cell of these rows narrows 'for every input' (looked for: loops, veiled, ifaces, maps, wideKeys, modest, calm, conditions, laid).
  DERIVED. THE GIVEN ROWS OF THIS SEAT. 4 by the template 'for every input the law returns true; each argument reads behind the call as it read before'; 0 by the template 'total and deterministic' (their statements: YthifahmmapcfeaaTotals.lean).
  GIVEN WITH THE SEED: the statements are not yours to turn. If you find one false, say at which input.
  Laid BY PROGRAM, IN A SANDBOX (cutbox-rows.mjs): the forced cells as the released guide's own fill.sh prints them over the translation 484beb253e4559e3… (all of the seat's roots in one cut). By AI agents, Wed Nov 11 2026. No macro, syntax, notation, axiom, sorry.
-/
import Derived.Test.YthifahmmapcfeaaChecked
import GoSem.Claim
import GoSem.ClaimJoined
import GoSem.ClaimMapViews
import Derived.JoinedTies
import Derived.KernelRfl
namespace Go.Proofs.Ythifahmmapcfeaa
/- THE CELL 'sum', in the pinned program and in every row, IS THE sha256 OF THE DUMP (.gsa) THAT YthifahmmapcfeaaProg.lean LOADS. Nothing in Lean hashes anything: it is a label: what it is worth is what the hold of that sum in a sandbox is worth. -/
noncomputable def Try.pinned : Pinned := { name := "ythifahmmapcfeaa", sum := "484beb253e4559e33ba818179f20e54f02f267d08fa3c0432ae0413952be473c", checked := Try.checked }
namespace Rows
def none {H : Type} : Left H := { results := [], args := [] }

/-- 'thimblelaw19.PagerNobody': WHATEVER THE INPUT: true; the input reads as it did. -/
def pagerNobodySpec : ChangeSpec := { name := "pagerNobody", fn := fun _ => fun
  | [d] => { results := [.lit (.bool true)], args := [d] }
  | _ => none }
def pagerNobodyRow : OpenClaim := { program := "ythifahmmapcfeaa", sum := "484beb253e4559e33ba818179f20e54f02f267d08fa3c0432ae0413952be473c", func := "thimble/thimblelaw19.PagerNobody", spec := "pagerNobody", inPlace := ["maps.clone"], unfollowed := true, recurses := true, apart := false }
def PagerNobodySaid : Prop := pagerNobodyRow.holds Try.pinned (OpenSpec.ofChange pagerNobodySpec)

/-- ITS FALSE NEIGHBOUR: 'it returns false'. Refute it at one input. -/
def pagerNobodyWrong : ChangeSpec := { name := "pagerNobody", fn := fun _ => fun
  | [d] => { results := [.lit (.bool false)], args := [d] }
  | _ => none }
def PagerNobodyWrongFalsely : Prop := pagerNobodyRow.holds Try.pinned (OpenSpec.ofChange pagerNobodyWrong)

/-- 'thimblelaw19.PagerShadows': WHATEVER THE INPUT: true; the input reads as it did. -/
def pagerShadowsSpec : ChangeSpec := { name := "pagerShadows", fn := fun _ => fun
  | [d1, d2, d3, d4, d5] => { results := [.lit (.bool true)], args := [d1, d2, d3, d4, d5] }
  | _ => none }
def pagerShadowsRow : OpenClaim := { program := "ythifahmmapcfeaa", sum := "484beb253e4559e33ba818179f20e54f02f267d08fa3c0432ae0413952be473c", func := "thimble/thimblelaw19.PagerShadows", spec := "pagerShadows", unfollowed := true, recurses := true, apart := false }
def PagerShadowsSaid : Prop := pagerShadowsRow.holds Try.pinned (OpenSpec.ofChange pagerShadowsSpec)

/-- ITS FALSE NEIGHBOUR: 'it returns false'. Refute it at one input. -/
def pagerShadowsWrong : ChangeSpec := { name := "pagerShadows", fn := fun _ => fun
  | [d1, d2, d3, d4, d5] => { results := [.lit (.bool false)], args := [d1, d2, d3, d4, d5] }
  | _ => none }
def PagerShadowsWrongFalsely : Prop := pagerShadowsRow.holds Try.pinned (OpenSpec.ofChange pagerShadowsWrong)

/-- 'thimblelaw19.PagerFlushes': WHATEVER THE INPUT: true; the input reads as it did. -/
def pagerFlushesSpec : ChangeSpec := { name := "pagerFlushes", fn := fun _ => fun
  | [d1, d2, d3, d4] => { results := [.lit (.bool true)], args := [d1, d2, d3, d4] }
  | _ => none }
def pagerFlushesRow : OpenClaim := { program := "ythifahmmapcfeaa", sum := "484beb253e4559e33ba818179f20e54f02f267d08fa3c0432ae0413952be473c", func := "thimble/thimblelaw19.PagerFlushes", spec := "pagerFlushes", unfollowed := true, recurses := true, apart := false }
def PagerFlushesSaid : Prop := pagerFlushesRow.holds Try.pinned (OpenSpec.ofChange pagerFlushesSpec)

/-- ITS FALSE NEIGHBOUR: 'it returns false'. Refute it at one input. -/
def pagerFlushesWrong : ChangeSpec := { name := "pagerFlushes", fn := fun _ => fun
  | [d1, d2, d3, d4] => { results := [.lit (.bool false)], args := [d1, d2, d3, d4] }
  | _ => none }
def PagerFlushesWrongFalsely : Prop := pagerFlushesRow.holds Try.pinned (OpenSpec.ofChange pagerFlushesWrong)

/-- 'thimblelaw19.PagerMarks': WHATEVER THE INPUT: true; the input reads as it did. -/
def pagerMarksSpec : ChangeSpec := { name := "pagerMarks", fn := fun _ => fun
  | [d1, d2, d3] => { results := [.lit (.bool true)], args := [d1, d2, d3] }
  | _ => none }
def pagerMarksRow : OpenClaim := { program := "ythifahmmapcfeaa", sum := "484beb253e4559e33ba818179f20e54f02f267d08fa3c0432ae0413952be473c", func := "thimble/thimblelaw19.PagerMarks", spec := "pagerMarks", inPlace := ["maps.clone"], unfollowed := true, recurses := true, apart := false }
def PagerMarksSaid : Prop := pagerMarksRow.holds Try.pinned (OpenSpec.ofChange pagerMarksSpec)

/-- ITS FALSE NEIGHBOUR: 'it returns false'. Refute it at one input. -/
def pagerMarksWrong : ChangeSpec := { name := "pagerMarks", fn := fun _ => fun
  | [d1, d2, d3] => { results := [.lit (.bool false)], args := [d1, d2, d3] }
  | _ => none }
def PagerMarksWrongFalsely : Prop := pagerMarksRow.holds Try.pinned (OpenSpec.ofChange pagerMarksWrong)

/- THE SECOND FORM. 'bulk': how many values and letters a reading holds, each counted each time it is reached (what is shared counts as often as it is met; a slice's spare places count too). A statement '..UptoSaid' is the law's where the arguments, and the package variables that the reading takes, are together of bulk at most 1048576: NARROWER than '..Said'. Prove '..Said' where nothing that the law and all that it calls make is longer than what came in: it says more and counts as full. Else prove '..UptoSaid'. A law counts once. -/
mutual
def uptoBulk {H : Type} : DataW H → Nat
  | .lit (.string bytes) => bytes.length + 1
  | .lit _ => 1
  | .nil => 1
  | .ptr d => uptoBulk d + 1
  | .slice elems spare => uptoBulkAll elems + uptoBulkAll spare + 1
  | .agg parts => uptoBulkAll parts + 1
  | .iface _ d => uptoBulk d + 1
  | .map entries => uptoBulkEntries entries + 1
  | .held _ => 1
def uptoBulkAll {H : Type} : List (DataW H) → Nat
  | [] => 0
  | d :: r => uptoBulk d + uptoBulkAll r
def uptoBulkEntries {H : Type} : List (Lit × DataW H) → Nat
  | [] => 0
  | x :: r => uptoBulkEntry x + uptoBulkEntries r
def uptoBulkEntry {H : Type} : Lit × DataW H → Nat
  | (.string bytes, d) => bytes.length + uptoBulk d + 1
  | (_, d) => uptoBulk d + 1
 end
def uptoSmall : (H : Type) → List (DataW H) → Bool := fun _ ds => decide (uptoBulkAll ds ≤ 1048576)
def OpenSpec.upto (s : _root_.Go.ChangeSpec) : _root_.Go.OpenSpec := { _root_.Go.OpenSpec.ofChange s with cond := some uptoSmall }

/-- 'thimblelaw19.PagerNobody', WHERE WHAT IT READS IS OF BULK AT MOST 1048576: true; the input reads as it did. -/
def pagerNobodyUptoRow : OpenClaim := { program := "ythifahmmapcfeaa", sum := "484beb253e4559e33ba818179f20e54f02f267d08fa3c0432ae0413952be473c", func := "thimble/thimblelaw19.PagerNobody", spec := "pagerNobody", inPlace := ["maps.clone"], unfollowed := true, recurses := true, apart := false, narrowed := true }
def PagerNobodyUptoSaid : Prop := pagerNobodyUptoRow.holds Try.pinned (OpenSpec.upto pagerNobodySpec)

/-- 'thimblelaw19.PagerShadows', WHERE WHAT IT READS IS OF BULK AT MOST 1048576: true; the input reads as it did. -/
def pagerShadowsUptoRow : OpenClaim := { program := "ythifahmmapcfeaa", sum := "484beb253e4559e33ba818179f20e54f02f267d08fa3c0432ae0413952be473c", func := "thimble/thimblelaw19.PagerShadows", spec := "pagerShadows", unfollowed := true, recurses := true, apart := false, narrowed := true }
def PagerShadowsUptoSaid : Prop := pagerShadowsUptoRow.holds Try.pinned (OpenSpec.upto pagerShadowsSpec)

/-- 'thimblelaw19.PagerFlushes', WHERE WHAT IT READS IS OF BULK AT MOST 1048576: true; the input reads as it did. -/
def pagerFlushesUptoRow : OpenClaim := { program := "ythifahmmapcfeaa", sum := "484beb253e4559e33ba818179f20e54f02f267d08fa3c0432ae0413952be473c", func := "thimble/thimblelaw19.PagerFlushes", spec := "pagerFlushes", unfollowed := true, recurses := true, apart := false, narrowed := true }
def PagerFlushesUptoSaid : Prop := pagerFlushesUptoRow.holds Try.pinned (OpenSpec.upto pagerFlushesSpec)

/-- 'thimblelaw19.PagerMarks', WHERE WHAT IT READS IS OF BULK AT MOST 1048576: true; the input reads as it did. -/
def pagerMarksUptoRow : OpenClaim := { program := "ythifahmmapcfeaa", sum := "484beb253e4559e33ba818179f20e54f02f267d08fa3c0432ae0413952be473c", func := "thimble/thimblelaw19.PagerMarks", spec := "pagerMarks", inPlace := ["maps.clone"], unfollowed := true, recurses := true, apart := false, narrowed := true }
def PagerMarksUptoSaid : Prop := pagerMarksUptoRow.holds Try.pinned (OpenSpec.upto pagerMarksSpec)

end Rows
end Go.Proofs.Ythifahmmapcfeaa
