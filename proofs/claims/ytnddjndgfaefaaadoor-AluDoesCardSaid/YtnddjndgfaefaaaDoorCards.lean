/-
  DERIVED. GIVEN WITH THE SEED: THE CARDS: each row of YtnddjndgfaefaaaDoorRows.lean that lists a variable, with what it lists TIED to the program's text (the seventh form; the later family's looks); each row that meets fmt, with fmt's text TOLD by the authors' own Lean function (tested against real Go, not proved from fmt's source: count such statements apart). THE CARD IS WHAT COUNTS. Prove the row's statement (the work); the ties are given (YtnddjndgfaefaaaDoorTie.lean); close each card by the builder's one call (the guide's Derived/Test/ToyasCard.lean, 'card_holds'). Laid BY PROGRAM, IN A SANDBOX (cutbox-door.mjs). By AI agents, Wed Nov 11 2026. No macro, syntax, notation, axiom, sorry.
-/
import Derived.Test.YtnddjndgfaefaaaDoorRows
import GoSem.ClaimSeven
namespace Go.Proofs.YtnddjndgfaefaaaDoor
namespace Rows

/-- THE TIED CARD OF 'ferrylaw09.AluBack'. -/
def aluBackCard : Claim7 := { stood := { row := aluBackRow, standIns := [], harness := (true, "3a6bdb2e388aa3d0027782909cbfa161d0bc300e57073b426962260e5fa7f662"), looks := true }, kinds := [], alts := [], laidByText := true, laidKinds := [.data, .listed, .data, .pinned], laidTests := true, laidLooks := .later }
def AluBackCardSaid : Prop := Claim7.holds Tryd.pinned (.plain (OpenSpec.ofChange aluBackSpec)) aluBackCard

/-- THE TIED CARD OF 'ferrylaw09.AluFields'. -/
def aluFieldsCard : Claim7 := { stood := { row := aluFieldsRow, standIns := [], harness := (true, "3a6bdb2e388aa3d0027782909cbfa161d0bc300e57073b426962260e5fa7f662"), looks := true }, kinds := [], alts := [], laidByText := true, laidKinds := [.data, .listed, .data, .pinned], laidTests := true, laidLooks := .later }
def AluFieldsCardSaid : Prop := Claim7.holds Tryd.pinned (.plain (OpenSpec.ofChange aluFieldsSpec)) aluFieldsCard

/-- THE TIED CARD OF 'ferrylaw09.AluBits'. -/
def aluBitsCard : Claim7 := { stood := { row := aluBitsRow, standIns := [], harness := (true, "3a6bdb2e388aa3d0027782909cbfa161d0bc300e57073b426962260e5fa7f662"), looks := true }, kinds := [], alts := [], laidByText := true, laidKinds := [.data, .listed, .data, .pinned], laidTests := true, laidLooks := .later }
def AluBitsCardSaid : Prop := Claim7.holds Tryd.pinned (.plain (OpenSpec.ofChange aluBitsSpec)) aluBitsCard

/-- THE TIED CARD OF 'ferrylaw09.AluDoes'. -/
def aluDoesCard : Claim7 := { stood := { row := aluDoesRow, standIns := [], harness := (true, "3a6bdb2e388aa3d0027782909cbfa161d0bc300e57073b426962260e5fa7f662"), looks := true }, kinds := [], alts := [], laidByText := true, laidKinds := [.data, .listed, .data, .pinned], laidTests := true, laidLooks := .later }
def AluDoesCardSaid : Prop := Claim7.holds Tryd.pinned (.plain (OpenSpec.ofChange aluDoesSpec)) aluDoesCard

/-- THE TIED CARD OF 'ferrylaw09.AluTraps'. -/
def aluTrapsCard : Claim7 := { stood := { row := aluTrapsRow, standIns := [], harness := (true, "3a6bdb2e388aa3d0027782909cbfa161d0bc300e57073b426962260e5fa7f662"), looks := true }, kinds := [], alts := [], laidByText := true, laidKinds := [.data, .listed, .data, .pinned], laidTests := true, laidLooks := .later }
def AluTrapsCardSaid : Prop := Claim7.holds Tryd.pinned (.plain (OpenSpec.ofChange aluTrapsSpec)) aluTrapsCard

/-- THE SECOND FORM's CARD OF 'ferrylaw09.AluBack'. -/
def aluBackUptoCard : Claim7 := { stood := { row := aluBackUptoRow, standIns := [], harness := (true, "3a6bdb2e388aa3d0027782909cbfa161d0bc300e57073b426962260e5fa7f662"), looks := true }, kinds := [], alts := [], laidByText := true, laidKinds := [.data, .listed, .data, .pinned], laidTests := true, laidLooks := .later }
def AluBackUptoCardSaid : Prop := Claim7.holds Tryd.pinned (.plain (OpenSpec.upto aluBackSpec)) aluBackUptoCard

/-- THE SECOND FORM's CARD OF 'ferrylaw09.AluFields'. -/
def aluFieldsUptoCard : Claim7 := { stood := { row := aluFieldsUptoRow, standIns := [], harness := (true, "3a6bdb2e388aa3d0027782909cbfa161d0bc300e57073b426962260e5fa7f662"), looks := true }, kinds := [], alts := [], laidByText := true, laidKinds := [.data, .listed, .data, .pinned], laidTests := true, laidLooks := .later }
def AluFieldsUptoCardSaid : Prop := Claim7.holds Tryd.pinned (.plain (OpenSpec.upto aluFieldsSpec)) aluFieldsUptoCard

/-- THE SECOND FORM's CARD OF 'ferrylaw09.AluBits'. -/
def aluBitsUptoCard : Claim7 := { stood := { row := aluBitsUptoRow, standIns := [], harness := (true, "3a6bdb2e388aa3d0027782909cbfa161d0bc300e57073b426962260e5fa7f662"), looks := true }, kinds := [], alts := [], laidByText := true, laidKinds := [.data, .listed, .data, .pinned], laidTests := true, laidLooks := .later }
def AluBitsUptoCardSaid : Prop := Claim7.holds Tryd.pinned (.plain (OpenSpec.upto aluBitsSpec)) aluBitsUptoCard

/-- THE SECOND FORM's CARD OF 'ferrylaw09.AluDoes'. -/
def aluDoesUptoCard : Claim7 := { stood := { row := aluDoesUptoRow, standIns := [], harness := (true, "3a6bdb2e388aa3d0027782909cbfa161d0bc300e57073b426962260e5fa7f662"), looks := true }, kinds := [], alts := [], laidByText := true, laidKinds := [.data, .listed, .data, .pinned], laidTests := true, laidLooks := .later }
def AluDoesUptoCardSaid : Prop := Claim7.holds Tryd.pinned (.plain (OpenSpec.upto aluDoesSpec)) aluDoesUptoCard

/-- THE SECOND FORM's CARD OF 'ferrylaw09.AluTraps'. -/
def aluTrapsUptoCard : Claim7 := { stood := { row := aluTrapsUptoRow, standIns := [], harness := (true, "3a6bdb2e388aa3d0027782909cbfa161d0bc300e57073b426962260e5fa7f662"), looks := true }, kinds := [], alts := [], laidByText := true, laidKinds := [.data, .listed, .data, .pinned], laidTests := true, laidLooks := .later }
def AluTrapsUptoCardSaid : Prop := Claim7.holds Tryd.pinned (.plain (OpenSpec.upto aluTrapsSpec)) aluTrapsUptoCard
end Rows
end Go.Proofs.YtnddjndgfaefaaaDoor
