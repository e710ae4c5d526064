/-
  No cell of these rows narrows 'for every input' (looked for: loops, veiled, ifaces, maps, wideKeys, modest, calm, conditions, laid).
  DERIVED. THE GIVEN ROWS OF THIS SEAT. 9 by the template 'for every input the law returns true; each argument reads behind the call as it read before'; 0 by the template 'total and deterministic' (their statements: YtjclkpgmloejoaaTotals.lean).
  GIVEN WITH THE SEED: the statements are not yours to turn. If you find one false, say at which input.
  Laid BY PROGRAM, IN A SANDBOX (cutbox-rows.mjs): the forced cells as the released guide's own fill.sh prints them over the translation 65e9076ad29574c7… (all of the seat's roots in one cut). By AI agents, Wed Nov 11 2026. No macro, syntax, notation, axiom, sorry.
-/
import Derived.Test.YtjclkpgmloejoaaChecked
import GoSem.Claim
import GoSem.ClaimJoined
import GoSem.ClaimMapViews
import Derived.JoinedTies
import Derived.KernelRfl
namespace Go.Proofs.Ytjclkpgmloejoaa
/- THE CELL 'sum', in the pinned program and in every row, IS THE sha256 OF THE DUMP (.gsa) THAT YtjclkpgmloejoaaProg.lean LOADS. Nothing in Lean hashes anything: it is a label: what it is worth is what the hold of that sum in a sandbox is worth. -/
noncomputable def Try.pinned : Pinned := { name := "ytjclkpgmloejoaa", sum := "65e9076ad29574c77d6928a9caab78e44f40693c341c46b49fb88551fa16c3fe", checked := Try.checked }
namespace Rows
def none {H : Type} : Left H := { results := [], args := [] }

/-- 'thimblelaw18.CacheTells': WHATEVER THE INPUT: true; the input reads as it did. -/
def cacheTellsSpec : ChangeSpec := { name := "cacheTells", fn := fun _ => fun
  | [d1, d2, d3] => { results := [.lit (.bool true)], args := [d1, d2, d3] }
  | _ => none }
def cacheTellsRow : OpenClaim := { program := "ytjclkpgmloejoaa", sum := "65e9076ad29574c77d6928a9caab78e44f40693c341c46b49fb88551fa16c3fe", func := "thimble/thimblelaw18.CacheTells", spec := "cacheTells", unfollowed := true, recurses := true, apart := false }
def CacheTellsSaid : Prop := cacheTellsRow.holds Try.pinned (OpenSpec.ofChange cacheTellsSpec)

/-- ITS FALSE NEIGHBOUR: 'it returns false'. Refute it at one input. -/
def cacheTellsWrong : ChangeSpec := { name := "cacheTells", fn := fun _ => fun
  | [d1, d2, d3] => { results := [.lit (.bool false)], args := [d1, d2, d3] }
  | _ => none }
def CacheTellsWrongFalsely : Prop := cacheTellsRow.holds Try.pinned (OpenSpec.ofChange cacheTellsWrong)

/-- 'thimblelaw18.CachePins': WHATEVER THE INPUT: true; the input reads as it did. -/
def cachePinsSpec : ChangeSpec := { name := "cachePins", fn := fun _ => fun
  | [d1, d2, d3] => { results := [.lit (.bool true)], args := [d1, d2, d3] }
  | _ => none }
def cachePinsRow : OpenClaim := { program := "ytjclkpgmloejoaa", sum := "65e9076ad29574c77d6928a9caab78e44f40693c341c46b49fb88551fa16c3fe", func := "thimble/thimblelaw18.CachePins", spec := "cachePins", unfollowed := true, recurses := true, apart := false }
def CachePinsSaid : Prop := cachePinsRow.holds Try.pinned (OpenSpec.ofChange cachePinsSpec)

/-- ITS FALSE NEIGHBOUR: 'it returns false'. Refute it at one input. -/
def cachePinsWrong : ChangeSpec := { name := "cachePins", fn := fun _ => fun
  | [d1, d2, d3] => { results := [.lit (.bool false)], args := [d1, d2, d3] }
  | _ => none }
def CachePinsWrongFalsely : Prop := cachePinsRow.holds Try.pinned (OpenSpec.ofChange cachePinsWrong)

/-- 'thimblelaw18.CacheWhole': WHATEVER THE INPUT: true; the input reads as it did. -/
def cacheWholeSpec : ChangeSpec := { name := "cacheWhole", fn := fun _ => fun
  | [d1, d2] => { results := [.lit (.bool true)], args := [d1, d2] }
  | _ => none }
def cacheWholeRow : OpenClaim := { program := "ytjclkpgmloejoaa", sum := "65e9076ad29574c77d6928a9caab78e44f40693c341c46b49fb88551fa16c3fe", func := "thimble/thimblelaw18.CacheWhole", spec := "cacheWhole", unfollowed := true, recurses := true, apart := false }
def CacheWholeSaid : Prop := cacheWholeRow.holds Try.pinned (OpenSpec.ofChange cacheWholeSpec)

/-- ITS FALSE NEIGHBOUR: 'it returns false'. Refute it at one input. -/
def cacheWholeWrong : ChangeSpec := { name := "cacheWhole", fn := fun _ => fun
  | [d1, d2] => { results := [.lit (.bool false)], args := [d1, d2] }
  | _ => none }
def CacheWholeWrongFalsely : Prop := cacheWholeRow.holds Try.pinned (OpenSpec.ofChange cacheWholeWrong)

/-- 'thimblelaw19.PagerShadows': WHATEVER THE INPUT: true; the input reads as it did. -/
def pagerShadowsSpec : ChangeSpec := { name := "pagerShadows", fn := fun _ => fun
  | [d1, d2, d3, d4, d5] => { results := [.lit (.bool true)], args := [d1, d2, d3, d4, d5] }
  | _ => none }
def pagerShadowsRow : OpenClaim := { program := "ytjclkpgmloejoaa", sum := "65e9076ad29574c77d6928a9caab78e44f40693c341c46b49fb88551fa16c3fe", func := "thimble/thimblelaw19.PagerShadows", spec := "pagerShadows", unfollowed := true, recurses := true, apart := false }
def PagerShadowsSaid : Prop := pagerShadowsRow.holds Try.pinned (OpenSpec.ofChange pagerShadowsSpec)

/-- ITS FALSE NEIGHBOUR: 'it returns false'. Refute it at one input. -/
def pagerShadowsWrong : ChangeSpec := { name := "pagerShadows", fn := fun _ => fun
  | [d1, d2, d3, d4, d5] => { results := [.lit (.bool false)], args := [d1, d2, d3, d4, d5] }
  | _ => none }
def PagerShadowsWrongFalsely : Prop := pagerShadowsRow.holds Try.pinned (OpenSpec.ofChange pagerShadowsWrong)

/-- 'thimblelaw19.PagerFlushes': WHATEVER THE INPUT: true; the input reads as it did. -/
def pagerFlushesSpec : ChangeSpec := { name := "pagerFlushes", fn := fun _ => fun
  | [d1, d2, d3, d4] => { results := [.lit (.bool true)], args := [d1, d2, d3, d4] }
  | _ => none }
def pagerFlushesRow : OpenClaim := { program := "ytjclkpgmloejoaa", sum := "65e9076ad29574c77d6928a9caab78e44f40693c341c46b49fb88551fa16c3fe", func := "thimble/thimblelaw19.PagerFlushes", spec := "pagerFlushes", unfollowed := true, recurses := true, apart := false }
def PagerFlushesSaid : Prop := pagerFlushesRow.holds Try.pinned (OpenSpec.ofChange pagerFlushesSpec)

/-- ITS FALSE NEIGHBOUR: 'it returns false'. Refute it at one input. -/
def pagerFlushesWrong : ChangeSpec := { name := "pagerFlushes", fn := fun _ => fun
  | [d1, d2, d3, d4] => { results := [.lit (.bool false)], args := [d1, d2, d3, d4] }
  | _ => none }
def PagerFlushesWrongFalsely : Prop := pagerFlushesRow.holds Try.pinned (OpenSpec.ofChange pagerFlushesWrong)

/-- 'thimblelaw19.PagerMarks': WHATEVER THE INPUT: true; the input reads as it did. -/
def pagerMarksSpec : ChangeSpec := { name := "pagerMarks", fn := fun _ => fun
  | [d1, d2, d3] => { results := [.lit (.bool true)], args := [d1, d2, d3] }
  | _ => none }
def pagerMarksRow : OpenClaim := { program := "ytjclkpgmloejoaa", sum := "65e9076ad29574c77d6928a9caab78e44f40693c341c46b49fb88551fa16c3fe", func := "thimble/thimblelaw19.PagerMarks", spec := "pagerMarks", inPlace := ["maps.clone"], unfollowed := true, recurses := true, apart := false }
def PagerMarksSaid : Prop := pagerMarksRow.holds Try.pinned (OpenSpec.ofChange pagerMarksSpec)

/-- ITS FALSE NEIGHBOUR: 'it returns false'. Refute it at one input. -/
def pagerMarksWrong : ChangeSpec := { name := "pagerMarks", fn := fun _ => fun
  | [d1, d2, d3] => { results := [.lit (.bool false)], args := [d1, d2, d3] }
  | _ => none }
def PagerMarksWrongFalsely : Prop := pagerMarksRow.holds Try.pinned (OpenSpec.ofChange pagerMarksWrong)

/-- 'thimblelaw21.ChainNobody': WHATEVER THE INPUT: true; the input reads as it did. -/
def chainNobodySpec : ChangeSpec := { name := "chainNobody", fn := fun _ => fun
  | [d1, d2, d3] => { results := [.lit (.bool true)], args := [d1, d2, d3] }
  | _ => none }
def chainNobodyRow : OpenClaim := { program := "ytjclkpgmloejoaa", sum := "65e9076ad29574c77d6928a9caab78e44f40693c341c46b49fb88551fa16c3fe", func := "thimble/thimblelaw21.ChainNobody", spec := "chainNobody", unfollowed := true, recurses := true, apart := false }
def ChainNobodySaid : Prop := chainNobodyRow.holds Try.pinned (OpenSpec.ofChange chainNobodySpec)

/-- ITS FALSE NEIGHBOUR: 'it returns false'. Refute it at one input. -/
def chainNobodyWrong : ChangeSpec := { name := "chainNobody", fn := fun _ => fun
  | [d1, d2, d3] => { results := [.lit (.bool false)], args := [d1, d2, d3] }
  | _ => none }
def ChainNobodyWrongFalsely : Prop := chainNobodyRow.holds Try.pinned (OpenSpec.ofChange chainNobodyWrong)

/-- 'thimblelaw21.ChainFull': WHATEVER THE INPUT: true; the input reads as it did. -/
def chainFullSpec : ChangeSpec := { name := "chainFull", fn := fun _ => fun
  | [d1, d2] => { results := [.lit (.bool true)], args := [d1, d2] }
  | _ => none }
def chainFullRow : OpenClaim := { program := "ytjclkpgmloejoaa", sum := "65e9076ad29574c77d6928a9caab78e44f40693c341c46b49fb88551fa16c3fe", func := "thimble/thimblelaw21.ChainFull", spec := "chainFull", unfollowed := true, recurses := true, apart := false }
def ChainFullSaid : Prop := chainFullRow.holds Try.pinned (OpenSpec.ofChange chainFullSpec)

/-- ITS FALSE NEIGHBOUR: 'it returns false'. Refute it at one input. -/
def chainFullWrong : ChangeSpec := { name := "chainFull", fn := fun _ => fun
  | [d1, d2] => { results := [.lit (.bool false)], args := [d1, d2] }
  | _ => none }
def ChainFullWrongFalsely : Prop := chainFullRow.holds Try.pinned (OpenSpec.ofChange chainFullWrong)

/-- 'thimblelaw21.ChainBack': WHATEVER THE INPUT: true; the input reads as it did. -/
def chainBackSpec : ChangeSpec := { name := "chainBack", fn := fun _ => fun
  | [d1, d2] => { results := [.lit (.bool true)], args := [d1, d2] }
  | _ => none }
def chainBackRow : OpenClaim := { program := "ytjclkpgmloejoaa", sum := "65e9076ad29574c77d6928a9caab78e44f40693c341c46b49fb88551fa16c3fe", func := "thimble/thimblelaw21.ChainBack", spec := "chainBack", unfollowed := true, recurses := true, apart := false }
def ChainBackSaid : Prop := chainBackRow.holds Try.pinned (OpenSpec.ofChange chainBackSpec)

/-- ITS FALSE NEIGHBOUR: 'it returns false'. Refute it at one input. -/
def chainBackWrong : ChangeSpec := { name := "chainBack", fn := fun _ => fun
  | [d1, d2] => { results := [.lit (.bool false)], args := [d1, d2] }
  | _ => none }
def ChainBackWrongFalsely : Prop := chainBackRow.holds Try.pinned (OpenSpec.ofChange chainBackWrong)

/- THE SECOND FORM. 'bulk': how many values and letters a reading holds, each counted each time it is reached (what is shared counts as often as it is met; a slice's spare places count too). A statement '..UptoSaid' is the law's where the arguments, and the package variables that the reading takes, are together of bulk at most 1048576: NARROWER than '..Said'. Prove '..Said' where nothing that the law and all that it calls make is longer than what came in: it says more and counts as full. Else prove '..UptoSaid'. A law counts once. -/
mutual
def uptoBulk {H : Type} : DataW H → Nat
  | .lit (.string bytes) => bytes.length + 1
  | .lit _ => 1
  | .nil => 1
  | .ptr d => uptoBulk d + 1
  | .slice elems spare => uptoBulkAll elems + uptoBulkAll spare + 1
  | .agg parts => uptoBulkAll parts + 1
  | .iface _ d => uptoBulk d + 1
  | .map entries => uptoBulkEntries entries + 1
  | .held _ => 1
def uptoBulkAll {H : Type} : List (DataW H) → Nat
  | [] => 0
  | d :: r => uptoBulk d + uptoBulkAll r
def uptoBulkEntries {H : Type} : List (Lit × DataW H) → Nat
  | [] => 0
  | x :: r => uptoBulkEntry x + uptoBulkEntries r
def uptoBulkEntry {H : Type} : Lit × DataW H → Nat
  | (.string bytes, d) => bytes.length + uptoBulk d + 1
  | (_, d) => uptoBulk d + 1
 end
def uptoSmall : (H : Type) → List (DataW H) → Bool := fun _ ds => decide (uptoBulkAll ds ≤ 1048576)
def OpenSpec.upto (s : _root_.Go.ChangeSpec) : _root_.Go.OpenSpec := { _root_.Go.OpenSpec.ofChange s with cond := some uptoSmall }

/-- 'thimblelaw18.CacheTells', WHERE WHAT IT READS IS OF BULK AT MOST 1048576: true; the input reads as it did. -/
def cacheTellsUptoRow : OpenClaim := { program := "ytjclkpgmloejoaa", sum := "65e9076ad29574c77d6928a9caab78e44f40693c341c46b49fb88551fa16c3fe", func := "thimble/thimblelaw18.CacheTells", spec := "cacheTells", unfollowed := true, recurses := true, apart := false, narrowed := true }
def CacheTellsUptoSaid : Prop := cacheTellsUptoRow.holds Try.pinned (OpenSpec.upto cacheTellsSpec)

/-- 'thimblelaw18.CachePins', WHERE WHAT IT READS IS OF BULK AT MOST 1048576: true; the input reads as it did. -/
def cachePinsUptoRow : OpenClaim := { program := "ytjclkpgmloejoaa", sum := "65e9076ad29574c77d6928a9caab78e44f40693c341c46b49fb88551fa16c3fe", func := "thimble/thimblelaw18.CachePins", spec := "cachePins", unfollowed := true, recurses := true, apart := false, narrowed := true }
def CachePinsUptoSaid : Prop := cachePinsUptoRow.holds Try.pinned (OpenSpec.upto cachePinsSpec)

/-- 'thimblelaw18.CacheWhole', WHERE WHAT IT READS IS OF BULK AT MOST 1048576: true; the input reads as it did. -/
def cacheWholeUptoRow : OpenClaim := { program := "ytjclkpgmloejoaa", sum := "65e9076ad29574c77d6928a9caab78e44f40693c341c46b49fb88551fa16c3fe", func := "thimble/thimblelaw18.CacheWhole", spec := "cacheWhole", unfollowed := true, recurses := true, apart := false, narrowed := true }
def CacheWholeUptoSaid : Prop := cacheWholeUptoRow.holds Try.pinned (OpenSpec.upto cacheWholeSpec)

/-- 'thimblelaw19.PagerShadows', WHERE WHAT IT READS IS OF BULK AT MOST 1048576: true; the input reads as it did. -/
def pagerShadowsUptoRow : OpenClaim := { program := "ytjclkpgmloejoaa", sum := "65e9076ad29574c77d6928a9caab78e44f40693c341c46b49fb88551fa16c3fe", func := "thimble/thimblelaw19.PagerShadows", spec := "pagerShadows", unfollowed := true, recurses := true, apart := false, narrowed := true }
def PagerShadowsUptoSaid : Prop := pagerShadowsUptoRow.holds Try.pinned (OpenSpec.upto pagerShadowsSpec)

/-- 'thimblelaw19.PagerFlushes', WHERE WHAT IT READS IS OF BULK AT MOST 1048576: true; the input reads as it did. -/
def pagerFlushesUptoRow : OpenClaim := { program := "ytjclkpgmloejoaa", sum := "65e9076ad29574c77d6928a9caab78e44f40693c341c46b49fb88551fa16c3fe", func := "thimble/thimblelaw19.PagerFlushes", spec := "pagerFlushes", unfollowed := true, recurses := true, apart := false, narrowed := true }
def PagerFlushesUptoSaid : Prop := pagerFlushesUptoRow.holds Try.pinned (OpenSpec.upto pagerFlushesSpec)

/-- 'thimblelaw19.PagerMarks', WHERE WHAT IT READS IS OF BULK AT MOST 1048576: true; the input reads as it did. -/
def pagerMarksUptoRow : OpenClaim := { program := "ytjclkpgmloejoaa", sum := "65e9076ad29574c77d6928a9caab78e44f40693c341c46b49fb88551fa16c3fe", func := "thimble/thimblelaw19.PagerMarks", spec := "pagerMarks", inPlace := ["maps.clone"], unfollowed := true, recurses := true, apart := false, narrowed := true }
def PagerMarksUptoSaid : Prop := pagerMarksUptoRow.holds Try.pinned (OpenSpec.upto pagerMarksSpec)

/-- 'thimblelaw21.ChainNobody', WHERE WHAT IT READS IS OF BULK AT MOST 1048576: true; the input reads as it did. -/
def chainNobodyUptoRow : OpenClaim := { program := "ytjclkpgmloejoaa", sum := "65e9076ad29574c77d6928a9caab78e44f40693c341c46b49fb88551fa16c3fe", func := "thimble/thimblelaw21.ChainNobody", spec := "chainNobody", unfollowed := true, recurses := true, apart := false, narrowed := true }
def ChainNobodyUptoSaid : Prop := chainNobodyUptoRow.holds Try.pinned (OpenSpec.upto chainNobodySpec)

/-- 'thimblelaw21.ChainFull', WHERE WHAT IT READS IS OF BULK AT MOST 1048576: true; the input reads as it did. -/
def chainFullUptoRow : OpenClaim := { program := "ytjclkpgmloejoaa", sum := "65e9076ad29574c77d6928a9caab78e44f40693c341c46b49fb88551fa16c3fe", func := "thimble/thimblelaw21.ChainFull", spec := "chainFull", unfollowed := true, recurses := true, apart := false, narrowed := true }
def ChainFullUptoSaid : Prop := chainFullUptoRow.holds Try.pinned (OpenSpec.upto chainFullSpec)

/-- 'thimblelaw21.ChainBack', WHERE WHAT IT READS IS OF BULK AT MOST 1048576: true; the input reads as it did. -/
def chainBackUptoRow : OpenClaim := { program := "ytjclkpgmloejoaa", sum := "65e9076ad29574c77d6928a9caab78e44f40693c341c46b49fb88551fa16c3fe", func := "thimble/thimblelaw21.ChainBack", spec := "chainBack", unfollowed := true, recurses := true, apart := false, narrowed := true }
def ChainBackUptoSaid : Prop := chainBackUptoRow.holds Try.pinned (OpenSpec.upto chainBackSpec)

end Rows
end Go.Proofs.Ytjclkpgmloejoaa
