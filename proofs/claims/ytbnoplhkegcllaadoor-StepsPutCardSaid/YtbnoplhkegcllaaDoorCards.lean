/-
  DERIVED. GIVEN WITH THE SEED: THE CARDS: each row of YtbnoplhkegcllaaDoorRows.lean that lists a variable, with what it lists TIED to the program's text (the seventh form; the later family's looks); each row that meets fmt, with fmt's text TOLD by the authors' own Lean function (tested against real Go, not proved from fmt's source: count such statements apart). THE CARD IS WHAT COUNTS. Prove the row's statement (the work); the ties are given (YtbnoplhkegcllaaDoorTie.lean); close each card by the builder's one call (the guide's Derived/Test/ToyasCard.lean, 'card_holds'). Laid BY PROGRAM, IN A SANDBOX (cutbox-door.mjs). By AI agents, Wed Nov 11 2026. No macro, syntax, notation, axiom, sorry.
-/
import Derived.Test.YtbnoplhkegcllaaDoorRows
import GoSem.ClaimSeven
namespace Go.Proofs.YtbnoplhkegcllaaDoor
namespace Rows

/-- THE TIED CARD OF 'thimblelaw08.StepsGet'. -/
def stepsGetCard : Claim7 := { stood := { row := stepsGetRow, standIns := [], harness := (true, "14b799c095305fbdab2d13ffd099b716dd6a348e0699ca20076b0bd404d9b317"), looks := false }, kinds := [], alts := [], laidByText := true, laidKinds := [.data, .data, .pinned], laidTests := true, laidLooks := .later }
def StepsGetCardSaid : Prop := Claim7.holds Tryd.pinned (.plain (OpenSpec.ofChange stepsGetSpec)) stepsGetCard

/-- THE TIED CARD OF 'thimblelaw08.StepsPut'. -/
def stepsPutCard : Claim7 := { stood := { row := stepsPutRow, standIns := [], harness := (true, "14b799c095305fbdab2d13ffd099b716dd6a348e0699ca20076b0bd404d9b317"), looks := false }, kinds := [], alts := [], laidByText := true, laidKinds := [.data, .data, .pinned], laidTests := true, laidLooks := .later }
def StepsPutCardSaid : Prop := Claim7.holds Tryd.pinned (.plain (OpenSpec.ofChange stepsPutSpec)) stepsPutCard

/-- THE TIED CARD OF 'thimblelaw08.StepsDrop'. -/
def stepsDropCard : Claim7 := { stood := { row := stepsDropRow, standIns := [], harness := (true, "14b799c095305fbdab2d13ffd099b716dd6a348e0699ca20076b0bd404d9b317"), looks := false }, kinds := [], alts := [], laidByText := true, laidKinds := [.data, .data, .pinned], laidTests := true, laidLooks := .later }
def StepsDropCardSaid : Prop := Claim7.holds Tryd.pinned (.plain (OpenSpec.ofChange stepsDropSpec)) stepsDropCard

/-- THE TIED CARD OF 'thimblelaw08.StepsBack'. -/
def stepsBackCard : Claim7 := { stood := { row := stepsBackRow, standIns := [], harness := (true, "14b799c095305fbdab2d13ffd099b716dd6a348e0699ca20076b0bd404d9b317"), looks := false }, kinds := [], alts := [], laidByText := true, laidKinds := [.data, .data, .pinned], laidTests := true, laidLooks := .later }
def StepsBackCardSaid : Prop := Claim7.holds Tryd.pinned (.plain (OpenSpec.ofChange stepsBackSpec)) stepsBackCard

/-- THE TIED CARD OF 'thimblelaw08.StepsTwice'. -/
def stepsTwiceCard : Claim7 := { stood := { row := stepsTwiceRow, standIns := [], harness := (true, "14b799c095305fbdab2d13ffd099b716dd6a348e0699ca20076b0bd404d9b317"), looks := false }, kinds := [], alts := [], laidByText := true, laidKinds := [.data, .data, .pinned], laidTests := true, laidLooks := .later }
def StepsTwiceCardSaid : Prop := Claim7.holds Tryd.pinned (.plain (OpenSpec.ofChange stepsTwiceSpec)) stepsTwiceCard

/-- THE TIED CARD OF 'thimblelaw08.StepsBeside'. -/
def stepsBesideCard : Claim7 := { stood := { row := stepsBesideRow, standIns := [], harness := (true, "14b799c095305fbdab2d13ffd099b716dd6a348e0699ca20076b0bd404d9b317"), looks := false }, kinds := [], alts := [], laidByText := true, laidKinds := [.data, .data, .pinned], laidTests := true, laidLooks := .later }
def StepsBesideCardSaid : Prop := Claim7.holds Tryd.pinned (.plain (OpenSpec.ofChange stepsBesideSpec)) stepsBesideCard

/-- THE TIED CARD OF 'thimblelaw08.StepsGone'. -/
def stepsGoneCard : Claim7 := { stood := { row := stepsGoneRow, standIns := [], harness := (true, "14b799c095305fbdab2d13ffd099b716dd6a348e0699ca20076b0bd404d9b317"), looks := false }, kinds := [], alts := [], laidByText := true, laidKinds := [.data, .data, .pinned], laidTests := true, laidLooks := .later }
def StepsGoneCardSaid : Prop := Claim7.holds Tryd.pinned (.plain (OpenSpec.ofChange stepsGoneSpec)) stepsGoneCard

/-- THE TIED CARD OF 'thimblelaw04.OrderCompares'. -/
def orderComparesCard : Claim7 := { stood := { row := orderComparesRow, standIns := [], harness := (true, "14b799c095305fbdab2d13ffd099b716dd6a348e0699ca20076b0bd404d9b317"), looks := false }, kinds := [], alts := [], laidByText := true, laidKinds := [.data, .data, .data, .data, .data, .pinned], laidTests := true, laidLooks := .later }
def OrderComparesCardSaid : Prop := Claim7.holds Tryd.pinned (.plain (OpenSpec.ofChange orderComparesSpec)) orderComparesCard

/-- THE TIED CARD OF 'thimblelaw04.OrderTotal'. -/
def orderTotalCard : Claim7 := { stood := { row := orderTotalRow, standIns := [], harness := (true, "14b799c095305fbdab2d13ffd099b716dd6a348e0699ca20076b0bd404d9b317"), looks := false }, kinds := [], alts := [], laidByText := true, laidKinds := [.data, .data, .data, .data, .data, .pinned], laidTests := true, laidLooks := .later }
def OrderTotalCardSaid : Prop := Claim7.holds Tryd.pinned (.plain (OpenSpec.ofChange orderTotalSpec)) orderTotalCard

/-- THE TIED CARD OF 'thimblelaw04.OrderLists'. -/
def orderListsCard : Claim7 := { stood := { row := orderListsRow, standIns := [], harness := (true, "14b799c095305fbdab2d13ffd099b716dd6a348e0699ca20076b0bd404d9b317"), looks := false }, kinds := [], alts := [], laidByText := true, laidKinds := [.data, .data, .data, .data, .data, .pinned], laidTests := true, laidLooks := .later }
def OrderListsCardSaid : Prop := Claim7.holds Tryd.pinned (.plain (OpenSpec.ofChange orderListsSpec)) orderListsCard

/-- THE TIED CARD OF 'thimblelaw04.OrderSorts'. -/
def orderSortsCard : Claim7 := { stood := { row := orderSortsRow, standIns := [], harness := (true, "14b799c095305fbdab2d13ffd099b716dd6a348e0699ca20076b0bd404d9b317"), looks := false }, kinds := [], alts := [], laidByText := true, laidKinds := [.data, .data, .data, .data, .data, .pinned], laidTests := true, laidLooks := .later }
def OrderSortsCardSaid : Prop := Claim7.holds Tryd.pinned (.plain (OpenSpec.ofChange orderSortsSpec)) orderSortsCard

/-- THE TIED CARD OF 'thimblelaw04.OrderRises'. -/
def orderRisesCard : Claim7 := { stood := { row := orderRisesRow, standIns := [], harness := (true, "14b799c095305fbdab2d13ffd099b716dd6a348e0699ca20076b0bd404d9b317"), looks := false }, kinds := [], alts := [], laidByText := true, laidKinds := [.data, .data, .data, .data, .data, .pinned], laidTests := true, laidLooks := .later }
def OrderRisesCardSaid : Prop := Claim7.holds Tryd.pinned (.plain (OpenSpec.ofChange orderRisesSpec)) orderRisesCard

/-- THE SECOND FORM's CARD OF 'thimblelaw08.StepsGet'. -/
def stepsGetUptoCard : Claim7 := { stood := { row := stepsGetUptoRow, standIns := [], harness := (true, "14b799c095305fbdab2d13ffd099b716dd6a348e0699ca20076b0bd404d9b317"), looks := false }, kinds := [], alts := [], laidByText := true, laidKinds := [.data, .data, .pinned], laidTests := true, laidLooks := .later }
def StepsGetUptoCardSaid : Prop := Claim7.holds Tryd.pinned (.plain (OpenSpec.upto stepsGetSpec)) stepsGetUptoCard

/-- THE SECOND FORM's CARD OF 'thimblelaw08.StepsPut'. -/
def stepsPutUptoCard : Claim7 := { stood := { row := stepsPutUptoRow, standIns := [], harness := (true, "14b799c095305fbdab2d13ffd099b716dd6a348e0699ca20076b0bd404d9b317"), looks := false }, kinds := [], alts := [], laidByText := true, laidKinds := [.data, .data, .pinned], laidTests := true, laidLooks := .later }
def StepsPutUptoCardSaid : Prop := Claim7.holds Tryd.pinned (.plain (OpenSpec.upto stepsPutSpec)) stepsPutUptoCard

/-- THE SECOND FORM's CARD OF 'thimblelaw08.StepsDrop'. -/
def stepsDropUptoCard : Claim7 := { stood := { row := stepsDropUptoRow, standIns := [], harness := (true, "14b799c095305fbdab2d13ffd099b716dd6a348e0699ca20076b0bd404d9b317"), looks := false }, kinds := [], alts := [], laidByText := true, laidKinds := [.data, .data, .pinned], laidTests := true, laidLooks := .later }
def StepsDropUptoCardSaid : Prop := Claim7.holds Tryd.pinned (.plain (OpenSpec.upto stepsDropSpec)) stepsDropUptoCard

/-- THE SECOND FORM's CARD OF 'thimblelaw08.StepsBack'. -/
def stepsBackUptoCard : Claim7 := { stood := { row := stepsBackUptoRow, standIns := [], harness := (true, "14b799c095305fbdab2d13ffd099b716dd6a348e0699ca20076b0bd404d9b317"), looks := false }, kinds := [], alts := [], laidByText := true, laidKinds := [.data, .data, .pinned], laidTests := true, laidLooks := .later }
def StepsBackUptoCardSaid : Prop := Claim7.holds Tryd.pinned (.plain (OpenSpec.upto stepsBackSpec)) stepsBackUptoCard

/-- THE SECOND FORM's CARD OF 'thimblelaw08.StepsTwice'. -/
def stepsTwiceUptoCard : Claim7 := { stood := { row := stepsTwiceUptoRow, standIns := [], harness := (true, "14b799c095305fbdab2d13ffd099b716dd6a348e0699ca20076b0bd404d9b317"), looks := false }, kinds := [], alts := [], laidByText := true, laidKinds := [.data, .data, .pinned], laidTests := true, laidLooks := .later }
def StepsTwiceUptoCardSaid : Prop := Claim7.holds Tryd.pinned (.plain (OpenSpec.upto stepsTwiceSpec)) stepsTwiceUptoCard

/-- THE SECOND FORM's CARD OF 'thimblelaw08.StepsBeside'. -/
def stepsBesideUptoCard : Claim7 := { stood := { row := stepsBesideUptoRow, standIns := [], harness := (true, "14b799c095305fbdab2d13ffd099b716dd6a348e0699ca20076b0bd404d9b317"), looks := false }, kinds := [], alts := [], laidByText := true, laidKinds := [.data, .data, .pinned], laidTests := true, laidLooks := .later }
def StepsBesideUptoCardSaid : Prop := Claim7.holds Tryd.pinned (.plain (OpenSpec.upto stepsBesideSpec)) stepsBesideUptoCard

/-- THE SECOND FORM's CARD OF 'thimblelaw08.StepsGone'. -/
def stepsGoneUptoCard : Claim7 := { stood := { row := stepsGoneUptoRow, standIns := [], harness := (true, "14b799c095305fbdab2d13ffd099b716dd6a348e0699ca20076b0bd404d9b317"), looks := false }, kinds := [], alts := [], laidByText := true, laidKinds := [.data, .data, .pinned], laidTests := true, laidLooks := .later }
def StepsGoneUptoCardSaid : Prop := Claim7.holds Tryd.pinned (.plain (OpenSpec.upto stepsGoneSpec)) stepsGoneUptoCard

/-- THE SECOND FORM's CARD OF 'thimblelaw04.OrderCompares'. -/
def orderComparesUptoCard : Claim7 := { stood := { row := orderComparesUptoRow, standIns := [], harness := (true, "14b799c095305fbdab2d13ffd099b716dd6a348e0699ca20076b0bd404d9b317"), looks := false }, kinds := [], alts := [], laidByText := true, laidKinds := [.data, .data, .data, .data, .data, .pinned], laidTests := true, laidLooks := .later }
def OrderComparesUptoCardSaid : Prop := Claim7.holds Tryd.pinned (.plain (OpenSpec.upto orderComparesSpec)) orderComparesUptoCard

/-- THE SECOND FORM's CARD OF 'thimblelaw04.OrderTotal'. -/
def orderTotalUptoCard : Claim7 := { stood := { row := orderTotalUptoRow, standIns := [], harness := (true, "14b799c095305fbdab2d13ffd099b716dd6a348e0699ca20076b0bd404d9b317"), looks := false }, kinds := [], alts := [], laidByText := true, laidKinds := [.data, .data, .data, .data, .data, .pinned], laidTests := true, laidLooks := .later }
def OrderTotalUptoCardSaid : Prop := Claim7.holds Tryd.pinned (.plain (OpenSpec.upto orderTotalSpec)) orderTotalUptoCard

/-- THE SECOND FORM's CARD OF 'thimblelaw04.OrderLists'. -/
def orderListsUptoCard : Claim7 := { stood := { row := orderListsUptoRow, standIns := [], harness := (true, "14b799c095305fbdab2d13ffd099b716dd6a348e0699ca20076b0bd404d9b317"), looks := false }, kinds := [], alts := [], laidByText := true, laidKinds := [.data, .data, .data, .data, .data, .pinned], laidTests := true, laidLooks := .later }
def OrderListsUptoCardSaid : Prop := Claim7.holds Tryd.pinned (.plain (OpenSpec.upto orderListsSpec)) orderListsUptoCard

/-- THE SECOND FORM's CARD OF 'thimblelaw04.OrderSorts'. -/
def orderSortsUptoCard : Claim7 := { stood := { row := orderSortsUptoRow, standIns := [], harness := (true, "14b799c095305fbdab2d13ffd099b716dd6a348e0699ca20076b0bd404d9b317"), looks := false }, kinds := [], alts := [], laidByText := true, laidKinds := [.data, .data, .data, .data, .data, .pinned], laidTests := true, laidLooks := .later }
def OrderSortsUptoCardSaid : Prop := Claim7.holds Tryd.pinned (.plain (OpenSpec.upto orderSortsSpec)) orderSortsUptoCard

/-- THE SECOND FORM's CARD OF 'thimblelaw04.OrderRises'. -/
def orderRisesUptoCard : Claim7 := { stood := { row := orderRisesUptoRow, standIns := [], harness := (true, "14b799c095305fbdab2d13ffd099b716dd6a348e0699ca20076b0bd404d9b317"), looks := false }, kinds := [], alts := [], laidByText := true, laidKinds := [.data, .data, .data, .data, .data, .pinned], laidTests := true, laidLooks := .later }
def OrderRisesUptoCardSaid : Prop := Claim7.holds Tryd.pinned (.plain (OpenSpec.upto orderRisesSpec)) orderRisesUptoCard
end Rows
end Go.Proofs.YtbnoplhkegcllaaDoor
