/-
  DERIVED. GIVEN WITH THE SEED: THE CARDS: each row of YtjhoaohpfbgfpaaDoorRows.lean that lists a variable, with what it lists TIED to the program's text (the seventh form; the later family's looks); each row that meets fmt, with fmt's text TOLD by the authors' own Lean function (tested against real Go, not proved from fmt's source: count such statements apart). THE CARD IS WHAT COUNTS. Prove the row's statement (the work); the ties are given (YtjhoaohpfbgfpaaDoorTie.lean); close each card by the builder's one call (the guide's Derived/Test/ToyasCard.lean, 'card_holds'). Laid BY PROGRAM, IN A SANDBOX (cutbox-door.mjs). By AI agents, Wed Nov 11 2026. No macro, syntax, notation, axiom, sorry.
-/
import Derived.Test.YtjhoaohpfbgfpaaDoorRows
import GoSem.ClaimSeven
namespace Go.Proofs.YtjhoaohpfbgfpaaDoor
namespace Rows

/-- THE TIED CARD OF 'thimblelaw04.OrderCompares'. -/
def orderComparesCard : Claim7 := { stood := { row := orderComparesRow, standIns := [], harness := (true, "33cbc621b9bc39ae48fe9ba45c9769d29fa43c0c058c91d33155a8a46bced9f6"), looks := false }, kinds := [], alts := [], laidByText := true, laidKinds := [.data, .data, .data, .data, .data, .pinned], laidTests := true, laidLooks := .later }
def OrderComparesCardSaid : Prop := Claim7.holds Tryd.pinned (.plain (OpenSpec.ofChange orderComparesSpec)) orderComparesCard

/-- THE TIED CARD OF 'thimblelaw04.OrderTotal'. -/
def orderTotalCard : Claim7 := { stood := { row := orderTotalRow, standIns := [], harness := (true, "33cbc621b9bc39ae48fe9ba45c9769d29fa43c0c058c91d33155a8a46bced9f6"), looks := false }, kinds := [], alts := [], laidByText := true, laidKinds := [.data, .data, .data, .data, .data, .pinned], laidTests := true, laidLooks := .later }
def OrderTotalCardSaid : Prop := Claim7.holds Tryd.pinned (.plain (OpenSpec.ofChange orderTotalSpec)) orderTotalCard

/-- THE TIED CARD OF 'thimblelaw04.OrderLists'. -/
def orderListsCard : Claim7 := { stood := { row := orderListsRow, standIns := [], harness := (true, "33cbc621b9bc39ae48fe9ba45c9769d29fa43c0c058c91d33155a8a46bced9f6"), looks := false }, kinds := [], alts := [], laidByText := true, laidKinds := [.data, .data, .data, .data, .data, .pinned], laidTests := true, laidLooks := .later }
def OrderListsCardSaid : Prop := Claim7.holds Tryd.pinned (.plain (OpenSpec.ofChange orderListsSpec)) orderListsCard

/-- THE TIED CARD OF 'thimblelaw04.OrderSorts'. -/
def orderSortsCard : Claim7 := { stood := { row := orderSortsRow, standIns := [], harness := (true, "33cbc621b9bc39ae48fe9ba45c9769d29fa43c0c058c91d33155a8a46bced9f6"), looks := false }, kinds := [], alts := [], laidByText := true, laidKinds := [.data, .data, .data, .data, .data, .pinned], laidTests := true, laidLooks := .later }
def OrderSortsCardSaid : Prop := Claim7.holds Tryd.pinned (.plain (OpenSpec.ofChange orderSortsSpec)) orderSortsCard

/-- THE TIED CARD OF 'thimblelaw04.OrderRises'. -/
def orderRisesCard : Claim7 := { stood := { row := orderRisesRow, standIns := [], harness := (true, "33cbc621b9bc39ae48fe9ba45c9769d29fa43c0c058c91d33155a8a46bced9f6"), looks := false }, kinds := [], alts := [], laidByText := true, laidKinds := [.data, .data, .data, .data, .data, .pinned], laidTests := true, laidLooks := .later }
def OrderRisesCardSaid : Prop := Claim7.holds Tryd.pinned (.plain (OpenSpec.ofChange orderRisesSpec)) orderRisesCard

/-- THE TIED CARD OF 'thimblelaw05.KeyWrites'. -/
def keyWritesCard : Claim7 := { stood := { row := keyWritesRow, standIns := [], harness := (true, "33cbc621b9bc39ae48fe9ba45c9769d29fa43c0c058c91d33155a8a46bced9f6"), looks := false }, kinds := [], alts := [], laidByText := true, laidKinds := [.data, .data, .data, .data, .data, .pinned], laidTests := true, laidLooks := .later }
def KeyWritesCardSaid : Prop := Claim7.holds Tryd.pinned (.plain (OpenSpec.ofChange keyWritesSpec)) keyWritesCard

/-- THE TIED CARD OF 'thimblelaw05.KeyReads'. -/
def keyReadsCard : Claim7 := { stood := { row := keyReadsRow, standIns := [], harness := (true, "33cbc621b9bc39ae48fe9ba45c9769d29fa43c0c058c91d33155a8a46bced9f6"), looks := false }, kinds := [], alts := [], laidByText := true, laidKinds := [.data, .data, .data, .data, .data, .pinned], laidTests := true, laidLooks := .later }
def KeyReadsCardSaid : Prop := Claim7.holds Tryd.pinned (.plain (OpenSpec.ofChange keyReadsSpec)) keyReadsCard

/-- THE TIED CARD OF 'thimblelaw05.KeyBack'. -/
def keyBackCard : Claim7 := { stood := { row := keyBackRow, standIns := [], harness := (true, "33cbc621b9bc39ae48fe9ba45c9769d29fa43c0c058c91d33155a8a46bced9f6"), looks := false }, kinds := [], alts := [], laidByText := true, laidKinds := [.data, .data, .data, .data, .data, .pinned], laidTests := true, laidLooks := .later }
def KeyBackCardSaid : Prop := Claim7.holds Tryd.pinned (.plain (OpenSpec.ofChange keyBackSpec)) keyBackCard

/-- THE TIED CARD OF 'thimblelaw05.KeyFree'. -/
def keyFreeCard : Claim7 := { stood := { row := keyFreeRow, standIns := [], harness := (true, "33cbc621b9bc39ae48fe9ba45c9769d29fa43c0c058c91d33155a8a46bced9f6"), looks := false }, kinds := [], alts := [], laidByText := true, laidKinds := [.data, .data, .data, .data, .data, .pinned], laidTests := true, laidLooks := .later }
def KeyFreeCardSaid : Prop := Claim7.holds Tryd.pinned (.plain (OpenSpec.ofChange keyFreeSpec)) keyFreeCard

/-- THE TIED CARD OF 'thimblelaw05.KeyOrders'. -/
def keyOrdersCard : Claim7 := { stood := { row := keyOrdersRow, standIns := [], harness := (true, "33cbc621b9bc39ae48fe9ba45c9769d29fa43c0c058c91d33155a8a46bced9f6"), looks := false }, kinds := [], alts := [], laidByText := true, laidKinds := [.data, .data, .data, .data, .data, .pinned], laidTests := true, laidLooks := .later }
def KeyOrdersCardSaid : Prop := Claim7.holds Tryd.pinned (.plain (OpenSpec.ofChange keyOrdersSpec)) keyOrdersCard

/-- THE SECOND FORM's CARD OF 'thimblelaw04.OrderCompares'. -/
def orderComparesUptoCard : Claim7 := { stood := { row := orderComparesUptoRow, standIns := [], harness := (true, "33cbc621b9bc39ae48fe9ba45c9769d29fa43c0c058c91d33155a8a46bced9f6"), looks := false }, kinds := [], alts := [], laidByText := true, laidKinds := [.data, .data, .data, .data, .data, .pinned], laidTests := true, laidLooks := .later }
def OrderComparesUptoCardSaid : Prop := Claim7.holds Tryd.pinned (.plain (OpenSpec.upto orderComparesSpec)) orderComparesUptoCard

/-- THE SECOND FORM's CARD OF 'thimblelaw04.OrderTotal'. -/
def orderTotalUptoCard : Claim7 := { stood := { row := orderTotalUptoRow, standIns := [], harness := (true, "33cbc621b9bc39ae48fe9ba45c9769d29fa43c0c058c91d33155a8a46bced9f6"), looks := false }, kinds := [], alts := [], laidByText := true, laidKinds := [.data, .data, .data, .data, .data, .pinned], laidTests := true, laidLooks := .later }
def OrderTotalUptoCardSaid : Prop := Claim7.holds Tryd.pinned (.plain (OpenSpec.upto orderTotalSpec)) orderTotalUptoCard

/-- THE SECOND FORM's CARD OF 'thimblelaw04.OrderLists'. -/
def orderListsUptoCard : Claim7 := { stood := { row := orderListsUptoRow, standIns := [], harness := (true, "33cbc621b9bc39ae48fe9ba45c9769d29fa43c0c058c91d33155a8a46bced9f6"), looks := false }, kinds := [], alts := [], laidByText := true, laidKinds := [.data, .data, .data, .data, .data, .pinned], laidTests := true, laidLooks := .later }
def OrderListsUptoCardSaid : Prop := Claim7.holds Tryd.pinned (.plain (OpenSpec.upto orderListsSpec)) orderListsUptoCard

/-- THE SECOND FORM's CARD OF 'thimblelaw04.OrderSorts'. -/
def orderSortsUptoCard : Claim7 := { stood := { row := orderSortsUptoRow, standIns := [], harness := (true, "33cbc621b9bc39ae48fe9ba45c9769d29fa43c0c058c91d33155a8a46bced9f6"), looks := false }, kinds := [], alts := [], laidByText := true, laidKinds := [.data, .data, .data, .data, .data, .pinned], laidTests := true, laidLooks := .later }
def OrderSortsUptoCardSaid : Prop := Claim7.holds Tryd.pinned (.plain (OpenSpec.upto orderSortsSpec)) orderSortsUptoCard

/-- THE SECOND FORM's CARD OF 'thimblelaw04.OrderRises'. -/
def orderRisesUptoCard : Claim7 := { stood := { row := orderRisesUptoRow, standIns := [], harness := (true, "33cbc621b9bc39ae48fe9ba45c9769d29fa43c0c058c91d33155a8a46bced9f6"), looks := false }, kinds := [], alts := [], laidByText := true, laidKinds := [.data, .data, .data, .data, .data, .pinned], laidTests := true, laidLooks := .later }
def OrderRisesUptoCardSaid : Prop := Claim7.holds Tryd.pinned (.plain (OpenSpec.upto orderRisesSpec)) orderRisesUptoCard

/-- THE SECOND FORM's CARD OF 'thimblelaw05.KeyWrites'. -/
def keyWritesUptoCard : Claim7 := { stood := { row := keyWritesUptoRow, standIns := [], harness := (true, "33cbc621b9bc39ae48fe9ba45c9769d29fa43c0c058c91d33155a8a46bced9f6"), looks := false }, kinds := [], alts := [], laidByText := true, laidKinds := [.data, .data, .data, .data, .data, .pinned], laidTests := true, laidLooks := .later }
def KeyWritesUptoCardSaid : Prop := Claim7.holds Tryd.pinned (.plain (OpenSpec.upto keyWritesSpec)) keyWritesUptoCard

/-- THE SECOND FORM's CARD OF 'thimblelaw05.KeyReads'. -/
def keyReadsUptoCard : Claim7 := { stood := { row := keyReadsUptoRow, standIns := [], harness := (true, "33cbc621b9bc39ae48fe9ba45c9769d29fa43c0c058c91d33155a8a46bced9f6"), looks := false }, kinds := [], alts := [], laidByText := true, laidKinds := [.data, .data, .data, .data, .data, .pinned], laidTests := true, laidLooks := .later }
def KeyReadsUptoCardSaid : Prop := Claim7.holds Tryd.pinned (.plain (OpenSpec.upto keyReadsSpec)) keyReadsUptoCard

/-- THE SECOND FORM's CARD OF 'thimblelaw05.KeyBack'. -/
def keyBackUptoCard : Claim7 := { stood := { row := keyBackUptoRow, standIns := [], harness := (true, "33cbc621b9bc39ae48fe9ba45c9769d29fa43c0c058c91d33155a8a46bced9f6"), looks := false }, kinds := [], alts := [], laidByText := true, laidKinds := [.data, .data, .data, .data, .data, .pinned], laidTests := true, laidLooks := .later }
def KeyBackUptoCardSaid : Prop := Claim7.holds Tryd.pinned (.plain (OpenSpec.upto keyBackSpec)) keyBackUptoCard

/-- THE SECOND FORM's CARD OF 'thimblelaw05.KeyFree'. -/
def keyFreeUptoCard : Claim7 := { stood := { row := keyFreeUptoRow, standIns := [], harness := (true, "33cbc621b9bc39ae48fe9ba45c9769d29fa43c0c058c91d33155a8a46bced9f6"), looks := false }, kinds := [], alts := [], laidByText := true, laidKinds := [.data, .data, .data, .data, .data, .pinned], laidTests := true, laidLooks := .later }
def KeyFreeUptoCardSaid : Prop := Claim7.holds Tryd.pinned (.plain (OpenSpec.upto keyFreeSpec)) keyFreeUptoCard

/-- THE SECOND FORM's CARD OF 'thimblelaw05.KeyOrders'. -/
def keyOrdersUptoCard : Claim7 := { stood := { row := keyOrdersUptoRow, standIns := [], harness := (true, "33cbc621b9bc39ae48fe9ba45c9769d29fa43c0c058c91d33155a8a46bced9f6"), looks := false }, kinds := [], alts := [], laidByText := true, laidKinds := [.data, .data, .data, .data, .data, .pinned], laidTests := true, laidLooks := .later }
def KeyOrdersUptoCardSaid : Prop := Claim7.holds Tryd.pinned (.plain (OpenSpec.upto keyOrdersSpec)) keyOrdersUptoCard
end Rows
end Go.Proofs.YtjhoaohpfbgfpaaDoor
