/-
  DERIVED. GIVEN WITH THE SEED: THE CARDS: each row of YtoepkkjejljfbaaDoorRows.lean that lists a variable, with what it lists TIED to the program's text (the seventh form; the later family's looks); each row that meets fmt, with fmt's text TOLD by the authors' own Lean function (tested against real Go, not proved from fmt's source: count such statements apart). THE CARD IS WHAT COUNTS. Prove the row's statement (the work); the ties are given (YtoepkkjejljfbaaDoorTie.lean); close each card by the builder's one call (the guide's Derived/Test/ToyasCard.lean, 'card_holds'). Laid BY PROGRAM, IN A SANDBOX (cutbox-door.mjs). By AI agents, Wed Nov 11 2026. No macro, syntax, notation, axiom, sorry.
-/
import Derived.Test.YtoepkkjejljfbaaDoorRows
import GoSem.ClaimSeven
namespace Go.Proofs.YtoepkkjejljfbaaDoor
namespace Rows

/-- THE TIED CARD OF 'thimblelaw13.UpdateAlls'. -/
def updateAllsCard : Claim7 := { stood := { row := updateAllsRow, standIns := [], harness := (true, "34e22afbd2083ce05dd0c26fc3d8aff4f7e8f5709dc6c253ec4b29abe1b0b1be"), looks := false }, kinds := [], alts := [], laidByText := true, laidKinds := [.data, .data, .data, .data, .data, .pinned], laidTests := true, laidLooks := .later }
def UpdateAllsCardSaid : Prop := Claim7.holds Tryd.pinned (.plain (OpenSpec.ofChange updateAllsSpec)) updateAllsCard

/-- THE TIED CARD OF 'thimblelaw13.UpdateTurns'. -/
def updateTurnsCard : Claim7 := { stood := { row := updateTurnsRow, standIns := [], harness := (true, "34e22afbd2083ce05dd0c26fc3d8aff4f7e8f5709dc6c253ec4b29abe1b0b1be"), looks := false }, kinds := [], alts := [], laidByText := true, laidKinds := [.data, .data, .data, .data, .data, .pinned], laidTests := true, laidLooks := .later }
def UpdateTurnsCardSaid : Prop := Claim7.holds Tryd.pinned (.plain (OpenSpec.ofChange updateTurnsSpec)) updateTurnsCard

/-- THE TIED CARD OF 'thimblelaw13.UpdateLeads'. -/
def updateLeadsCard : Claim7 := { stood := { row := updateLeadsRow, standIns := [], harness := (true, "34e22afbd2083ce05dd0c26fc3d8aff4f7e8f5709dc6c253ec4b29abe1b0b1be"), looks := false }, kinds := [], alts := [], laidByText := true, laidKinds := [.data, .data, .data, .data, .data, .pinned], laidTests := true, laidLooks := .later }
def UpdateLeadsCardSaid : Prop := Claim7.holds Tryd.pinned (.plain (OpenSpec.ofChange updateLeadsSpec)) updateLeadsCard

/-- THE TIED CARD OF 'thimblelaw13.UpdateBack'. -/
def updateBackCard : Claim7 := { stood := { row := updateBackRow, standIns := [], harness := (true, "34e22afbd2083ce05dd0c26fc3d8aff4f7e8f5709dc6c253ec4b29abe1b0b1be"), looks := false }, kinds := [], alts := [], laidByText := true, laidKinds := [.data, .data, .data, .data, .data, .pinned], laidTests := true, laidLooks := .later }
def UpdateBackCardSaid : Prop := Claim7.holds Tryd.pinned (.plain (OpenSpec.ofChange updateBackSpec)) updateBackCard

/-- THE TIED CARD OF 'thimblelaw13.UpdateBuilds'. -/
def updateBuildsCard : Claim7 := { stood := { row := updateBuildsRow, standIns := [], harness := (true, "34e22afbd2083ce05dd0c26fc3d8aff4f7e8f5709dc6c253ec4b29abe1b0b1be"), looks := false }, kinds := [], alts := [], laidByText := true, laidKinds := [.data, .data, .data, .data, .data, .pinned], laidTests := true, laidLooks := .later }
def UpdateBuildsCardSaid : Prop := Claim7.holds Tryd.pinned (.plain (OpenSpec.ofChange updateBuildsSpec)) updateBuildsCard

/-- THE SECOND FORM's CARD OF 'thimblelaw13.UpdateAlls'. -/
def updateAllsUptoCard : Claim7 := { stood := { row := updateAllsUptoRow, standIns := [], harness := (true, "34e22afbd2083ce05dd0c26fc3d8aff4f7e8f5709dc6c253ec4b29abe1b0b1be"), looks := false }, kinds := [], alts := [], laidByText := true, laidKinds := [.data, .data, .data, .data, .data, .pinned], laidTests := true, laidLooks := .later }
def UpdateAllsUptoCardSaid : Prop := Claim7.holds Tryd.pinned (.plain (OpenSpec.upto updateAllsSpec)) updateAllsUptoCard

/-- THE SECOND FORM's CARD OF 'thimblelaw13.UpdateTurns'. -/
def updateTurnsUptoCard : Claim7 := { stood := { row := updateTurnsUptoRow, standIns := [], harness := (true, "34e22afbd2083ce05dd0c26fc3d8aff4f7e8f5709dc6c253ec4b29abe1b0b1be"), looks := false }, kinds := [], alts := [], laidByText := true, laidKinds := [.data, .data, .data, .data, .data, .pinned], laidTests := true, laidLooks := .later }
def UpdateTurnsUptoCardSaid : Prop := Claim7.holds Tryd.pinned (.plain (OpenSpec.upto updateTurnsSpec)) updateTurnsUptoCard

/-- THE SECOND FORM's CARD OF 'thimblelaw13.UpdateLeads'. -/
def updateLeadsUptoCard : Claim7 := { stood := { row := updateLeadsUptoRow, standIns := [], harness := (true, "34e22afbd2083ce05dd0c26fc3d8aff4f7e8f5709dc6c253ec4b29abe1b0b1be"), looks := false }, kinds := [], alts := [], laidByText := true, laidKinds := [.data, .data, .data, .data, .data, .pinned], laidTests := true, laidLooks := .later }
def UpdateLeadsUptoCardSaid : Prop := Claim7.holds Tryd.pinned (.plain (OpenSpec.upto updateLeadsSpec)) updateLeadsUptoCard

/-- THE SECOND FORM's CARD OF 'thimblelaw13.UpdateBack'. -/
def updateBackUptoCard : Claim7 := { stood := { row := updateBackUptoRow, standIns := [], harness := (true, "34e22afbd2083ce05dd0c26fc3d8aff4f7e8f5709dc6c253ec4b29abe1b0b1be"), looks := false }, kinds := [], alts := [], laidByText := true, laidKinds := [.data, .data, .data, .data, .data, .pinned], laidTests := true, laidLooks := .later }
def UpdateBackUptoCardSaid : Prop := Claim7.holds Tryd.pinned (.plain (OpenSpec.upto updateBackSpec)) updateBackUptoCard

/-- THE SECOND FORM's CARD OF 'thimblelaw13.UpdateBuilds'. -/
def updateBuildsUptoCard : Claim7 := { stood := { row := updateBuildsUptoRow, standIns := [], harness := (true, "34e22afbd2083ce05dd0c26fc3d8aff4f7e8f5709dc6c253ec4b29abe1b0b1be"), looks := false }, kinds := [], alts := [], laidByText := true, laidKinds := [.data, .data, .data, .data, .data, .pinned], laidTests := true, laidLooks := .later }
def UpdateBuildsUptoCardSaid : Prop := Claim7.holds Tryd.pinned (.plain (OpenSpec.upto updateBuildsSpec)) updateBuildsUptoCard
end Rows
end Go.Proofs.YtoepkkjejljfbaaDoor
