/-
  DERIVED. GIVEN WITH THE SEED: THE CARDS: each row of YtoepkkjejljfbaaGreatDoorRows.lean that lists a variable, with what it lists TIED to the program's text (the seventh form; the later family's looks); each row that meets fmt, with fmt's text TOLD by the authors' own Lean function (tested against real Go, not proved from fmt's source: count such statements apart). THE CARD IS WHAT COUNTS. Prove the row's statement (the work); the ties are given (YtoepkkjejljfbaaGreatDoorTie.lean); close each card by the builder's one call (the guide's Derived/Test/ToyasCard.lean, 'card_holds'). Laid BY PROGRAM, IN A SANDBOX (cutbox-door.mjs). By AI agents, Wed Nov 11 2026. No macro, syntax, notation, axiom, sorry.
-/
import Derived.Test.YtoepkkjejljfbaaGreatDoorRows
import GoSem.ClaimSeven
namespace Go.Proofs.YtoepkkjejljfbaaGreatDoor
namespace Rows

/-- THE TIED CARD OF 'thimblelaw13.UpdatePuts'. -/
def updatePutsCard : Claim7 := { stood := { row := updatePutsRow, standIns := [], harness := (true, "8258f3fa6ba84dcb175fe2531726eb86862678f2679f3639fce1658bfa938791"), looks := false }, kinds := [], alts := [], laidByText := true, laidKinds := [.data, .data, .data, .data, .data, .pinned], laidTests := true, laidLooks := .later }
def UpdatePutsCardSaid : Prop := Claim7.holds Tryz.pinned (.plain (OpenSpec.ofChange updatePutsSpec)) updatePutsCard

/-- THE TIED CARD OF 'thimblelaw13.UpdateValues'. -/
def updateValuesCard : Claim7 := { stood := { row := updateValuesRow, standIns := [], harness := (true, "8258f3fa6ba84dcb175fe2531726eb86862678f2679f3639fce1658bfa938791"), looks := false }, kinds := [], alts := [], laidByText := true, laidKinds := [.data, .data, .data, .data, .data, .pinned], laidTests := true, laidLooks := .later }
def UpdateValuesCardSaid : Prop := Claim7.holds Tryz.pinned (.plain (OpenSpec.ofChange updateValuesSpec)) updateValuesCard

/-- THE SECOND FORM's CARD OF 'thimblelaw13.UpdatePuts'. -/
def updatePutsUptoCard : Claim7 := { stood := { row := updatePutsUptoRow, standIns := [], harness := (true, "8258f3fa6ba84dcb175fe2531726eb86862678f2679f3639fce1658bfa938791"), looks := false }, kinds := [], alts := [], laidByText := true, laidKinds := [.data, .data, .data, .data, .data, .pinned], laidTests := true, laidLooks := .later }
def UpdatePutsUptoCardSaid : Prop := Claim7.holds Tryz.pinned (.plain (OpenSpec.upto updatePutsSpec)) updatePutsUptoCard

/-- THE SECOND FORM's CARD OF 'thimblelaw13.UpdateValues'. -/
def updateValuesUptoCard : Claim7 := { stood := { row := updateValuesUptoRow, standIns := [], harness := (true, "8258f3fa6ba84dcb175fe2531726eb86862678f2679f3639fce1658bfa938791"), looks := false }, kinds := [], alts := [], laidByText := true, laidKinds := [.data, .data, .data, .data, .data, .pinned], laidTests := true, laidLooks := .later }
def UpdateValuesUptoCardSaid : Prop := Claim7.holds Tryz.pinned (.plain (OpenSpec.upto updateValuesSpec)) updateValuesUptoCard
end Rows
end Go.Proofs.YtoepkkjejljfbaaGreatDoor
