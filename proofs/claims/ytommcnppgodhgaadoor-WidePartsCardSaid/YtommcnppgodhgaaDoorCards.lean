/-
  DERIVED. GIVEN WITH THE SEED: THE CARDS: each row of YtommcnppgodhgaaDoorRows.lean that lists a variable, with what it lists TIED to the program's text (the seventh form; the later family's looks); each row that meets fmt, with fmt's text TOLD by the authors' own Lean function (tested against real Go, not proved from fmt's source: count such statements apart). THE CARD IS WHAT COUNTS. Prove the row's statement (the work); the ties are given (YtommcnppgodhgaaDoorTie.lean); close each card by the builder's one call (the guide's Derived/Test/ToyasCard.lean, 'card_holds'). Laid BY PROGRAM, IN A SANDBOX (cutbox-door.mjs). By AI agents, Wed Nov 11 2026. No macro, syntax, notation, axiom, sorry.
-/
import Derived.Test.YtommcnppgodhgaaDoorRows
import GoSem.ClaimSeven
namespace Go.Proofs.YtommcnppgodhgaaDoor
namespace Rows

/-- THE TIED CARD OF 'ferrylaw10.WideDoes'. -/
def wideDoesCard : Claim7 := { stood := { row := wideDoesRow, standIns := [], harness := (true, "256f218f33174a398591f667f85acbeb71c464598dafdcaec183503d1c4fed75"), looks := false }, kinds := [], alts := [], laidByText := true, laidKinds := [.listed, .data], laidTests := true, laidLooks := .later }
def WideDoesCardSaid : Prop := Claim7.holds Tryd.pinned (.plain (OpenSpec.ofChange wideDoesSpec)) wideDoesCard

/-- THE TIED CARD OF 'ferrylaw10.WideBack'. -/
def wideBackCard : Claim7 := { stood := { row := wideBackRow, standIns := [], harness := (true, "256f218f33174a398591f667f85acbeb71c464598dafdcaec183503d1c4fed75"), looks := false }, kinds := [], alts := [], laidByText := true, laidKinds := [.listed, .data], laidTests := true, laidLooks := .later }
def WideBackCardSaid : Prop := Claim7.holds Tryd.pinned (.plain (OpenSpec.ofChange wideBackSpec)) wideBackCard

/-- THE TIED CARD OF 'ferrylaw10.WideSigns'. -/
def wideSignsCard : Claim7 := { stood := { row := wideSignsRow, standIns := [], harness := (true, "256f218f33174a398591f667f85acbeb71c464598dafdcaec183503d1c4fed75"), looks := false }, kinds := [], alts := [], laidByText := true, laidKinds := [.listed, .data], laidTests := true, laidLooks := .later }
def WideSignsCardSaid : Prop := Claim7.holds Tryd.pinned (.plain (OpenSpec.ofChange wideSignsSpec)) wideSignsCard

/-- THE TIED CARD OF 'ferrylaw10.WideParts'. -/
def widePartsCard : Claim7 := { stood := { row := widePartsRow, standIns := [], harness := (true, "256f218f33174a398591f667f85acbeb71c464598dafdcaec183503d1c4fed75"), looks := false }, kinds := [], alts := [], laidByText := true, laidKinds := [.listed, .data], laidTests := true, laidLooks := .later }
def WidePartsCardSaid : Prop := Claim7.holds Tryd.pinned (.plain (OpenSpec.ofChange widePartsSpec)) widePartsCard

/-- THE TIED CARD OF 'ferrylaw10.WideUnaligned'. -/
def wideUnalignedCard : Claim7 := { stood := { row := wideUnalignedRow, standIns := [], harness := (true, "256f218f33174a398591f667f85acbeb71c464598dafdcaec183503d1c4fed75"), looks := false }, kinds := [], alts := [], laidByText := true, laidKinds := [.listed, .data], laidTests := true, laidLooks := .later }
def WideUnalignedCardSaid : Prop := Claim7.holds Tryd.pinned (.plain (OpenSpec.ofChange wideUnalignedSpec)) wideUnalignedCard

/-- THE SECOND FORM's CARD OF 'ferrylaw10.WideDoes'. -/
def wideDoesUptoCard : Claim7 := { stood := { row := wideDoesUptoRow, standIns := [], harness := (true, "256f218f33174a398591f667f85acbeb71c464598dafdcaec183503d1c4fed75"), looks := false }, kinds := [], alts := [], laidByText := true, laidKinds := [.listed, .data], laidTests := true, laidLooks := .later }
def WideDoesUptoCardSaid : Prop := Claim7.holds Tryd.pinned (.plain (OpenSpec.upto wideDoesSpec)) wideDoesUptoCard

/-- THE SECOND FORM's CARD OF 'ferrylaw10.WideBack'. -/
def wideBackUptoCard : Claim7 := { stood := { row := wideBackUptoRow, standIns := [], harness := (true, "256f218f33174a398591f667f85acbeb71c464598dafdcaec183503d1c4fed75"), looks := false }, kinds := [], alts := [], laidByText := true, laidKinds := [.listed, .data], laidTests := true, laidLooks := .later }
def WideBackUptoCardSaid : Prop := Claim7.holds Tryd.pinned (.plain (OpenSpec.upto wideBackSpec)) wideBackUptoCard

/-- THE SECOND FORM's CARD OF 'ferrylaw10.WideSigns'. -/
def wideSignsUptoCard : Claim7 := { stood := { row := wideSignsUptoRow, standIns := [], harness := (true, "256f218f33174a398591f667f85acbeb71c464598dafdcaec183503d1c4fed75"), looks := false }, kinds := [], alts := [], laidByText := true, laidKinds := [.listed, .data], laidTests := true, laidLooks := .later }
def WideSignsUptoCardSaid : Prop := Claim7.holds Tryd.pinned (.plain (OpenSpec.upto wideSignsSpec)) wideSignsUptoCard

/-- THE SECOND FORM's CARD OF 'ferrylaw10.WideParts'. -/
def widePartsUptoCard : Claim7 := { stood := { row := widePartsUptoRow, standIns := [], harness := (true, "256f218f33174a398591f667f85acbeb71c464598dafdcaec183503d1c4fed75"), looks := false }, kinds := [], alts := [], laidByText := true, laidKinds := [.listed, .data], laidTests := true, laidLooks := .later }
def WidePartsUptoCardSaid : Prop := Claim7.holds Tryd.pinned (.plain (OpenSpec.upto widePartsSpec)) widePartsUptoCard

/-- THE SECOND FORM's CARD OF 'ferrylaw10.WideUnaligned'. -/
def wideUnalignedUptoCard : Claim7 := { stood := { row := wideUnalignedUptoRow, standIns := [], harness := (true, "256f218f33174a398591f667f85acbeb71c464598dafdcaec183503d1c4fed75"), looks := false }, kinds := [], alts := [], laidByText := true, laidKinds := [.listed, .data], laidTests := true, laidLooks := .later }
def WideUnalignedUptoCardSaid : Prop := Claim7.holds Tryd.pinned (.plain (OpenSpec.upto wideUnalignedSpec)) wideUnalignedUptoCard
end Rows
end Go.Proofs.YtommcnppgodhgaaDoor
