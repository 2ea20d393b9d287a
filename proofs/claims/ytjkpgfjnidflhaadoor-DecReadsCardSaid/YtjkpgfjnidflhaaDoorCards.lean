/-
  DERIVED. GIVEN WITH THE SEED: THE CARDS: each row of YtjkpgfjnidflhaaDoorRows.lean that lists a variable, with what it lists TIED to the program's text (the seventh form; the later family's looks); each row that meets fmt, with fmt's text TOLD by the authors' own Lean function (tested against real Go, not proved from fmt's source: count such statements apart). THE CARD IS WHAT COUNTS. Prove the row's statement (the work); the ties are given (YtjkpgfjnidflhaaDoorTie.lean); close each card by the builder's one call (the guide's Derived/Test/ToyasCard.lean, 'card_holds'). Laid BY PROGRAM, IN A SANDBOX (cutbox-door.mjs). By AI agents, Wed Nov 11 2026. No macro, syntax, notation, axiom, sorry.
-/
import Derived.Test.YtjkpgfjnidflhaaDoorRows
import GoSem.ClaimSeven
namespace Go.Proofs.YtjkpgfjnidflhaaDoor
namespace Rows

/-- THE TIED CARD OF 'ferrylaw07.DecReads'. -/
def decReadsCard : Claim7 := { stood := { row := decReadsRow, standIns := [], harness := (true, "d7de11e355c9ebe212fdb3ab8b60246d4ff9580cd4f72e9d28ac235d0beaebc7"), looks := false }, kinds := [], alts := [], laidByText := true, laidKinds := [.data, .pinned], laidTests := true, laidLooks := .later }
def DecReadsCardSaid : Prop := Claim7.holds Tryd.pinned (.plain (OpenSpec.ofChange decReadsSpec)) decReadsCard

/-- THE TIED CARD OF 'ferrylaw07.DecForms'. -/
def decFormsCard : Claim7 := { stood := { row := decFormsRow, standIns := [], harness := (true, "d7de11e355c9ebe212fdb3ab8b60246d4ff9580cd4f72e9d28ac235d0beaebc7"), looks := false }, kinds := [], alts := [], laidByText := true, laidKinds := [.data, .pinned], laidTests := true, laidLooks := .later }
def DecFormsCardSaid : Prop := Claim7.holds Tryd.pinned (.plain (OpenSpec.ofChange decFormsSpec)) decFormsCard

/-- THE TIED CARD OF 'ferrylaw07.DecWrites'. -/
def decWritesCard : Claim7 := { stood := { row := decWritesRow, standIns := [], harness := (true, "d7de11e355c9ebe212fdb3ab8b60246d4ff9580cd4f72e9d28ac235d0beaebc7"), looks := false }, kinds := [], alts := [], laidByText := true, laidKinds := [.data, .pinned], laidTests := true, laidLooks := .later }
def DecWritesCardSaid : Prop := Claim7.holds Tryd.pinned (.plain (OpenSpec.ofChange decWritesSpec)) decWritesCard

/-- THE TIED CARD OF 'ferrylaw07.DecBack'. -/
def decBackCard : Claim7 := { stood := { row := decBackRow, standIns := [], harness := (true, "d7de11e355c9ebe212fdb3ab8b60246d4ff9580cd4f72e9d28ac235d0beaebc7"), looks := false }, kinds := [], alts := [], laidByText := true, laidKinds := [.data, .pinned], laidTests := true, laidLooks := .later }
def DecBackCardSaid : Prop := Claim7.holds Tryd.pinned (.plain (OpenSpec.ofChange decBackSpec)) decBackCard

/-- THE TIED CARD OF 'ferrylaw07.DecWords'. -/
def decWordsCard : Claim7 := { stood := { row := decWordsRow, standIns := [], harness := (true, "d7de11e355c9ebe212fdb3ab8b60246d4ff9580cd4f72e9d28ac235d0beaebc7"), looks := false }, kinds := [], alts := [], laidByText := true, laidKinds := [.data, .pinned], laidTests := true, laidLooks := .later }
def DecWordsCardSaid : Prop := Claim7.holds Tryd.pinned (.plain (OpenSpec.ofChange decWordsSpec)) decWordsCard

/-- THE SECOND FORM's CARD OF 'ferrylaw07.DecReads'. -/
def decReadsUptoCard : Claim7 := { stood := { row := decReadsUptoRow, standIns := [], harness := (true, "d7de11e355c9ebe212fdb3ab8b60246d4ff9580cd4f72e9d28ac235d0beaebc7"), looks := false }, kinds := [], alts := [], laidByText := true, laidKinds := [.data, .pinned], laidTests := true, laidLooks := .later }
def DecReadsUptoCardSaid : Prop := Claim7.holds Tryd.pinned (.plain (OpenSpec.upto decReadsSpec)) decReadsUptoCard

/-- THE SECOND FORM's CARD OF 'ferrylaw07.DecForms'. -/
def decFormsUptoCard : Claim7 := { stood := { row := decFormsUptoRow, standIns := [], harness := (true, "d7de11e355c9ebe212fdb3ab8b60246d4ff9580cd4f72e9d28ac235d0beaebc7"), looks := false }, kinds := [], alts := [], laidByText := true, laidKinds := [.data, .pinned], laidTests := true, laidLooks := .later }
def DecFormsUptoCardSaid : Prop := Claim7.holds Tryd.pinned (.plain (OpenSpec.upto decFormsSpec)) decFormsUptoCard

/-- THE SECOND FORM's CARD OF 'ferrylaw07.DecWrites'. -/
def decWritesUptoCard : Claim7 := { stood := { row := decWritesUptoRow, standIns := [], harness := (true, "d7de11e355c9ebe212fdb3ab8b60246d4ff9580cd4f72e9d28ac235d0beaebc7"), looks := false }, kinds := [], alts := [], laidByText := true, laidKinds := [.data, .pinned], laidTests := true, laidLooks := .later }
def DecWritesUptoCardSaid : Prop := Claim7.holds Tryd.pinned (.plain (OpenSpec.upto decWritesSpec)) decWritesUptoCard

/-- THE SECOND FORM's CARD OF 'ferrylaw07.DecBack'. -/
def decBackUptoCard : Claim7 := { stood := { row := decBackUptoRow, standIns := [], harness := (true, "d7de11e355c9ebe212fdb3ab8b60246d4ff9580cd4f72e9d28ac235d0beaebc7"), looks := false }, kinds := [], alts := [], laidByText := true, laidKinds := [.data, .pinned], laidTests := true, laidLooks := .later }
def DecBackUptoCardSaid : Prop := Claim7.holds Tryd.pinned (.plain (OpenSpec.upto decBackSpec)) decBackUptoCard

/-- THE SECOND FORM's CARD OF 'ferrylaw07.DecWords'. -/
def decWordsUptoCard : Claim7 := { stood := { row := decWordsUptoRow, standIns := [], harness := (true, "d7de11e355c9ebe212fdb3ab8b60246d4ff9580cd4f72e9d28ac235d0beaebc7"), looks := false }, kinds := [], alts := [], laidByText := true, laidKinds := [.data, .pinned], laidTests := true, laidLooks := .later }
def DecWordsUptoCardSaid : Prop := Claim7.holds Tryd.pinned (.plain (OpenSpec.upto decWordsSpec)) decWordsUptoCard
end Rows
end Go.Proofs.YtjkpgfjnidflhaaDoor
