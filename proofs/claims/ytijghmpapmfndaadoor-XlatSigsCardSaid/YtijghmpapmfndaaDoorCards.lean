/-
  DERIVED. GIVEN WITH THE SEED: THE CARDS: each row of YtijghmpapmfndaaDoorRows.lean that lists a variable, with what it lists TIED to the program's text (the seventh form; the later family's looks); each row that meets fmt, with fmt's text TOLD by the authors' own Lean function (tested against real Go, not proved from fmt's source: count such statements apart). THE CARD IS WHAT COUNTS. Prove the row's statement (the work); the ties are given (YtijghmpapmfndaaDoorTie.lean); close each card by the builder's one call (the guide's Derived/Test/ToyasCard.lean, 'card_holds'). Laid BY PROGRAM, IN A SANDBOX (cutbox-door.mjs). By AI agents, Wed Nov 11 2026. No macro, syntax, notation, axiom, sorry.
-/
import Derived.Test.YtijghmpapmfndaaDoorRows
import GoSem.ClaimSeven
namespace Go.Proofs.YtijghmpapmfndaaDoor
namespace Rows

/-- THE TIED CARD OF 'ferrylaw24.XlatTells'. -/
def xlatTellsCard : Claim7 := { stood := { row := xlatTellsRow, standIns := [], harness := (true, "6690e5fd2e4007b3f7d78623b05f3f27233d361183b3f21207d1fcb06f31600f"), looks := true }, kinds := [], alts := [], laidByText := true, laidKinds := [.data, .data, .data, .data, .sentinel, .sentinel, .listed, .data, .pinned], laidTests := true, laidLooks := .later }
def XlatTellsCardSaid : Prop := Claim7.holds Tryd.pinned (.plain (OpenSpec.ofChange xlatTellsSpec)) xlatTellsCard

/-- THE TIED CARD OF 'ferrylaw24.XlatErrors'. -/
def xlatErrorsCard : Claim7 := { stood := { row := xlatErrorsRow, standIns := [], harness := (true, "6690e5fd2e4007b3f7d78623b05f3f27233d361183b3f21207d1fcb06f31600f"), looks := true }, kinds := [], alts := [], laidByText := true, laidKinds := [.data, .data, .data, .data, .sentinel, .sentinel, .listed, .data, .pinned], laidTests := true, laidLooks := .later }
def XlatErrorsCardSaid : Prop := Claim7.holds Tryd.pinned (.plain (OpenSpec.ofChange xlatErrorsSpec)) xlatErrorsCard

/-- THE TIED CARD OF 'ferrylaw24.XlatFlags'. -/
def xlatFlagsCard : Claim7 := { stood := { row := xlatFlagsRow, standIns := [], harness := (true, "6690e5fd2e4007b3f7d78623b05f3f27233d361183b3f21207d1fcb06f31600f"), looks := true }, kinds := [], alts := [], laidByText := true, laidKinds := [.data, .data, .data, .data, .sentinel, .sentinel, .listed, .data, .pinned], laidTests := true, laidLooks := .later }
def XlatFlagsCardSaid : Prop := Claim7.holds Tryd.pinned (.plain (OpenSpec.ofChange xlatFlagsSpec)) xlatFlagsCard

/-- THE TIED CARD OF 'ferrylaw24.XlatSigs'. -/
def xlatSigsCard : Claim7 := { stood := { row := xlatSigsRow, standIns := [], harness := (true, "6690e5fd2e4007b3f7d78623b05f3f27233d361183b3f21207d1fcb06f31600f"), looks := true }, kinds := [], alts := [], laidByText := true, laidKinds := [.data, .data, .data, .data, .sentinel, .sentinel, .listed, .data, .pinned], laidTests := true, laidLooks := .later }
def XlatSigsCardSaid : Prop := Claim7.holds Tryd.pinned (.plain (OpenSpec.ofChange xlatSigsSpec)) xlatSigsCard

/-- THE SECOND FORM's CARD OF 'ferrylaw24.XlatTells'. -/
def xlatTellsUptoCard : Claim7 := { stood := { row := xlatTellsUptoRow, standIns := [], harness := (true, "6690e5fd2e4007b3f7d78623b05f3f27233d361183b3f21207d1fcb06f31600f"), looks := true }, kinds := [], alts := [], laidByText := true, laidKinds := [.data, .data, .data, .data, .sentinel, .sentinel, .listed, .data, .pinned], laidTests := true, laidLooks := .later }
def XlatTellsUptoCardSaid : Prop := Claim7.holds Tryd.pinned (.plain (OpenSpec.upto xlatTellsSpec)) xlatTellsUptoCard

/-- THE SECOND FORM's CARD OF 'ferrylaw24.XlatErrors'. -/
def xlatErrorsUptoCard : Claim7 := { stood := { row := xlatErrorsUptoRow, standIns := [], harness := (true, "6690e5fd2e4007b3f7d78623b05f3f27233d361183b3f21207d1fcb06f31600f"), looks := true }, kinds := [], alts := [], laidByText := true, laidKinds := [.data, .data, .data, .data, .sentinel, .sentinel, .listed, .data, .pinned], laidTests := true, laidLooks := .later }
def XlatErrorsUptoCardSaid : Prop := Claim7.holds Tryd.pinned (.plain (OpenSpec.upto xlatErrorsSpec)) xlatErrorsUptoCard

/-- THE SECOND FORM's CARD OF 'ferrylaw24.XlatFlags'. -/
def xlatFlagsUptoCard : Claim7 := { stood := { row := xlatFlagsUptoRow, standIns := [], harness := (true, "6690e5fd2e4007b3f7d78623b05f3f27233d361183b3f21207d1fcb06f31600f"), looks := true }, kinds := [], alts := [], laidByText := true, laidKinds := [.data, .data, .data, .data, .sentinel, .sentinel, .listed, .data, .pinned], laidTests := true, laidLooks := .later }
def XlatFlagsUptoCardSaid : Prop := Claim7.holds Tryd.pinned (.plain (OpenSpec.upto xlatFlagsSpec)) xlatFlagsUptoCard

/-- THE SECOND FORM's CARD OF 'ferrylaw24.XlatSigs'. -/
def xlatSigsUptoCard : Claim7 := { stood := { row := xlatSigsUptoRow, standIns := [], harness := (true, "6690e5fd2e4007b3f7d78623b05f3f27233d361183b3f21207d1fcb06f31600f"), looks := true }, kinds := [], alts := [], laidByText := true, laidKinds := [.data, .data, .data, .data, .sentinel, .sentinel, .listed, .data, .pinned], laidTests := true, laidLooks := .later }
def XlatSigsUptoCardSaid : Prop := Claim7.holds Tryd.pinned (.plain (OpenSpec.upto xlatSigsSpec)) xlatSigsUptoCard
end Rows
end Go.Proofs.YtijghmpapmfndaaDoor
