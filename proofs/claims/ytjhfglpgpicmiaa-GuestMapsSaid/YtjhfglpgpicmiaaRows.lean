/-
  No cell of these rows narrows 'for every input' (looked for: loops, veiled, ifaces, maps, wideKeys, modest, calm, conditions, laid).
  DERIVED. THE GIVEN ROWS OF THIS SEAT. 5 by the template 'for every input the law returns true; each argument reads behind the call as it read before'; 0 by the template 'total and deterministic' (their statements: YtjhfglpgpicmiaaTotals.lean).
  GIVEN WITH THE SEED: the statements are not yours to turn. If you find one false, say at which input.
  Laid BY PROGRAM, IN A SANDBOX (cutbox-rows.mjs): the forced cells as the released guide's own fill.sh prints them over the translation c628c2e8a65ce5cc… (all of the seat's roots in one cut). By AI agents, Wed Nov 11 2026. No macro, syntax, notation, axiom, sorry.
-/
import Derived.Test.YtjhfglpgpicmiaaChecked
import GoSem.Claim
import GoSem.ClaimJoined
import GoSem.ClaimMapViews
import Derived.JoinedTies
import Derived.KernelRfl
namespace Go.Proofs.Ytjhfglpgpicmiaa
/- THE CELL 'sum', in the pinned program and in every row, IS THE sha256 OF THE DUMP (.gsa) THAT YtjhfglpgpicmiaaProg.lean LOADS. Nothing in Lean hashes anything: it is a label: what it is worth is what the hold of that sum in a sandbox is worth. -/
noncomputable def Try.pinned : Pinned := { name := "ytjhfglpgpicmiaa", sum := "c628c2e8a65ce5ccb512ff061dfc5f91eaca958a6ff941f37485f6399863de9d", checked := Try.checked }
namespace Rows
def none {H : Type} : Left H := { results := [], args := [] }

/-- 'ferrylaw04.GuestParts': WHATEVER THE INPUT: true; the input reads as it did. -/
def guestPartsSpec : ChangeSpec := { name := "guestParts", fn := fun _ => fun
  | [d1, d2, d3, d4, d5, d6] => { results := [.lit (.bool true)], args := [d1, d2, d3, d4, d5, d6] }
  | _ => none }
def guestPartsRow : OpenClaim := { program := "ytjhfglpgpicmiaa", sum := "c628c2e8a65ce5ccb512ff061dfc5f91eaca958a6ff941f37485f6399863de9d", func := "ferry/ferrylaw04.GuestParts", spec := "guestParts", inPlace := ["slices.overlaps[ferry/api.Map]", "slices.overlaps[ferry/api.Page]"], unfollowed := true, recurses := true, apart := false }
def GuestPartsSaid : Prop := guestPartsRow.holds Try.pinned (OpenSpec.ofChange guestPartsSpec)

/-- ITS FALSE NEIGHBOUR: 'it returns false'. Refute it at one input. -/
def guestPartsWrong : ChangeSpec := { name := "guestParts", fn := fun _ => fun
  | [d1, d2, d3, d4, d5, d6] => { results := [.lit (.bool false)], args := [d1, d2, d3, d4, d5, d6] }
  | _ => none }
def GuestPartsWrongFalsely : Prop := guestPartsRow.holds Try.pinned (OpenSpec.ofChange guestPartsWrong)

/-- 'ferrylaw04.GuestAgain': WHATEVER THE INPUT: true; the input reads as it did. -/
def guestAgainSpec : ChangeSpec := { name := "guestAgain", fn := fun _ => fun
  | [d1, d2, d3, d4] => { results := [.lit (.bool true)], args := [d1, d2, d3, d4] }
  | _ => none }
def guestAgainRow : OpenClaim := { program := "ytjhfglpgpicmiaa", sum := "c628c2e8a65ce5ccb512ff061dfc5f91eaca958a6ff941f37485f6399863de9d", func := "ferry/ferrylaw04.GuestAgain", spec := "guestAgain", inPlace := ["slices.overlaps[ferry/api.Map]", "slices.overlaps[ferry/api.Page]"], unfollowed := true, recurses := true, apart := false }
def GuestAgainSaid : Prop := guestAgainRow.holds Try.pinned (OpenSpec.ofChange guestAgainSpec)

/-- ITS FALSE NEIGHBOUR: 'it returns false'. Refute it at one input. -/
def guestAgainWrong : ChangeSpec := { name := "guestAgain", fn := fun _ => fun
  | [d1, d2, d3, d4] => { results := [.lit (.bool false)], args := [d1, d2, d3, d4] }
  | _ => none }
def GuestAgainWrongFalsely : Prop := guestAgainRow.holds Try.pinned (OpenSpec.ofChange guestAgainWrong)

/-- 'ferrylaw04.GuestMaps': WHATEVER THE INPUT: true; the input reads as it did. -/
def guestMapsSpec : ChangeSpec := { name := "guestMaps", fn := fun _ => fun
  | [d1, d2, d3, d4] => { results := [.lit (.bool true)], args := [d1, d2, d3, d4] }
  | _ => none }
def guestMapsRow : OpenClaim := { program := "ytjhfglpgpicmiaa", sum := "c628c2e8a65ce5ccb512ff061dfc5f91eaca958a6ff941f37485f6399863de9d", func := "ferry/ferrylaw04.GuestMaps", spec := "guestMaps", inPlace := ["slices.overlaps[ferry/api.Map]", "slices.overlaps[ferry/api.Page]"], unfollowed := true, recurses := true, apart := false }
def GuestMapsSaid : Prop := guestMapsRow.holds Try.pinned (OpenSpec.ofChange guestMapsSpec)

/-- ITS FALSE NEIGHBOUR: 'it returns false'. Refute it at one input. -/
def guestMapsWrong : ChangeSpec := { name := "guestMaps", fn := fun _ => fun
  | [d1, d2, d3, d4] => { results := [.lit (.bool false)], args := [d1, d2, d3, d4] }
  | _ => none }
def GuestMapsWrongFalsely : Prop := guestMapsRow.holds Try.pinned (OpenSpec.ofChange guestMapsWrong)

/-- 'ferrylaw04.GuestElse': WHATEVER THE INPUT: true; the input reads as it did. -/
def guestElseSpec : ChangeSpec := { name := "guestElse", fn := fun _ => fun
  | [d1, d2, d3, d4, d5] => { results := [.lit (.bool true)], args := [d1, d2, d3, d4, d5] }
  | _ => none }
def guestElseRow : OpenClaim := { program := "ytjhfglpgpicmiaa", sum := "c628c2e8a65ce5ccb512ff061dfc5f91eaca958a6ff941f37485f6399863de9d", func := "ferry/ferrylaw04.GuestElse", spec := "guestElse", inPlace := ["slices.overlaps[ferry/api.Map]", "slices.overlaps[ferry/api.Page]"], unfollowed := true, recurses := true, apart := false }
def GuestElseSaid : Prop := guestElseRow.holds Try.pinned (OpenSpec.ofChange guestElseSpec)

/-- ITS FALSE NEIGHBOUR: 'it returns false'. Refute it at one input. -/
def guestElseWrong : ChangeSpec := { name := "guestElse", fn := fun _ => fun
  | [d1, d2, d3, d4, d5] => { results := [.lit (.bool false)], args := [d1, d2, d3, d4, d5] }
  | _ => none }
def GuestElseWrongFalsely : Prop := guestElseRow.holds Try.pinned (OpenSpec.ofChange guestElseWrong)

/-- 'ferrylaw04.GuestTells': WHATEVER THE INPUT: true; the input reads as it did. -/
def guestTellsSpec : ChangeSpec := { name := "guestTells", fn := fun _ => fun
  | [d1, d2, d3, d4] => { results := [.lit (.bool true)], args := [d1, d2, d3, d4] }
  | _ => none }
def guestTellsRow : OpenClaim := { program := "ytjhfglpgpicmiaa", sum := "c628c2e8a65ce5ccb512ff061dfc5f91eaca958a6ff941f37485f6399863de9d", func := "ferry/ferrylaw04.GuestTells", spec := "guestTells", inPlace := ["slices.overlaps[ferry/api.Map]", "slices.overlaps[ferry/api.Page]"], unfollowed := true, recurses := true, apart := false }
def GuestTellsSaid : Prop := guestTellsRow.holds Try.pinned (OpenSpec.ofChange guestTellsSpec)

/-- ITS FALSE NEIGHBOUR: 'it returns false'. Refute it at one input. -/
def guestTellsWrong : ChangeSpec := { name := "guestTells", fn := fun _ => fun
  | [d1, d2, d3, d4] => { results := [.lit (.bool false)], args := [d1, d2, d3, d4] }
  | _ => none }
def GuestTellsWrongFalsely : Prop := guestTellsRow.holds Try.pinned (OpenSpec.ofChange guestTellsWrong)

/- THE SECOND FORM. 'bulk': how many values and letters a reading holds, each counted each time it is reached (what is shared counts as often as it is met; a slice's spare places count too). A statement '..UptoSaid' is the law's where the arguments, and the package variables that the reading takes, are together of bulk at most 1048576: NARROWER than '..Said'. Prove '..Said' where nothing that the law and all that it calls make is longer than what came in: it says more and counts as full. Else prove '..UptoSaid'. A law counts once. -/
mutual
def uptoBulk {H : Type} : DataW H → Nat
  | .lit (.string bytes) => bytes.length + 1
  | .lit _ => 1
  | .nil => 1
  | .ptr d => uptoBulk d + 1
  | .slice elems spare => uptoBulkAll elems + uptoBulkAll spare + 1
  | .agg parts => uptoBulkAll parts + 1
  | .iface _ d => uptoBulk d + 1
  | .map entries => uptoBulkEntries entries + 1
  | .held _ => 1
def uptoBulkAll {H : Type} : List (DataW H) → Nat
  | [] => 0
  | d :: r => uptoBulk d + uptoBulkAll r
def uptoBulkEntries {H : Type} : List (Lit × DataW H) → Nat
  | [] => 0
  | x :: r => uptoBulkEntry x + uptoBulkEntries r
def uptoBulkEntry {H : Type} : Lit × DataW H → Nat
  | (.string bytes, d) => bytes.length + uptoBulk d + 1
  | (_, d) => uptoBulk d + 1
 end
def uptoSmall : (H : Type) → List (DataW H) → Bool := fun _ ds => decide (uptoBulkAll ds ≤ 1048576)
def OpenSpec.upto (s : _root_.Go.ChangeSpec) : _root_.Go.OpenSpec := { _root_.Go.OpenSpec.ofChange s with cond := some uptoSmall }

/-- 'ferrylaw04.GuestParts', WHERE WHAT IT READS IS OF BULK AT MOST 1048576: true; the input reads as it did. -/
def guestPartsUptoRow : OpenClaim := { program := "ytjhfglpgpicmiaa", sum := "c628c2e8a65ce5ccb512ff061dfc5f91eaca958a6ff941f37485f6399863de9d", func := "ferry/ferrylaw04.GuestParts", spec := "guestParts", inPlace := ["slices.overlaps[ferry/api.Map]", "slices.overlaps[ferry/api.Page]"], unfollowed := true, recurses := true, apart := false, narrowed := true }
def GuestPartsUptoSaid : Prop := guestPartsUptoRow.holds Try.pinned (OpenSpec.upto guestPartsSpec)

/-- 'ferrylaw04.GuestAgain', WHERE WHAT IT READS IS OF BULK AT MOST 1048576: true; the input reads as it did. -/
def guestAgainUptoRow : OpenClaim := { program := "ytjhfglpgpicmiaa", sum := "c628c2e8a65ce5ccb512ff061dfc5f91eaca958a6ff941f37485f6399863de9d", func := "ferry/ferrylaw04.GuestAgain", spec := "guestAgain", inPlace := ["slices.overlaps[ferry/api.Map]", "slices.overlaps[ferry/api.Page]"], unfollowed := true, recurses := true, apart := false, narrowed := true }
def GuestAgainUptoSaid : Prop := guestAgainUptoRow.holds Try.pinned (OpenSpec.upto guestAgainSpec)

/-- 'ferrylaw04.GuestMaps', WHERE WHAT IT READS IS OF BULK AT MOST 1048576: true; the input reads as it did. -/
def guestMapsUptoRow : OpenClaim := { program := "ytjhfglpgpicmiaa", sum := "c628c2e8a65ce5ccb512ff061dfc5f91eaca958a6ff941f37485f6399863de9d", func := "ferry/ferrylaw04.GuestMaps", spec := "guestMaps", inPlace := ["slices.overlaps[ferry/api.Map]", "slices.overlaps[ferry/api.Page]"], unfollowed := true, recurses := true, apart := false, narrowed := true }
def GuestMapsUptoSaid : Prop := guestMapsUptoRow.holds Try.pinned (OpenSpec.upto guestMapsSpec)

/-- 'ferrylaw04.GuestElse', WHERE WHAT IT READS IS OF BULK AT MOST 1048576: true; the input reads as it did. -/
def guestElseUptoRow : OpenClaim := { program := "ytjhfglpgpicmiaa", sum := "c628c2e8a65ce5ccb512ff061dfc5f91eaca958a6ff941f37485f6399863de9d", func := "ferry/ferrylaw04.GuestElse", spec := "guestElse", inPlace := ["slices.overlaps[ferry/api.Map]", "slices.overlaps[ferry/api.Page]"], unfollowed := true, recurses := true, apart := false, narrowed := true }
def GuestElseUptoSaid : Prop := guestElseUptoRow.holds Try.pinned (OpenSpec.upto guestElseSpec)

/-- 'ferrylaw04.GuestTells', WHERE WHAT IT READS IS OF BULK AT MOST 1048576: true; the input reads as it did. -/
def guestTellsUptoRow : OpenClaim := { program := "ytjhfglpgpicmiaa", sum := "c628c2e8a65ce5ccb512ff061dfc5f91eaca958a6ff941f37485f6399863de9d", func := "ferry/ferrylaw04.GuestTells", spec := "guestTells", inPlace := ["slices.overlaps[ferry/api.Map]", "slices.overlaps[ferry/api.Page]"], unfollowed := true, recurses := true, apart := false, narrowed := true }
def GuestTellsUptoSaid : Prop := guestTellsUptoRow.holds Try.pinned (OpenSpec.upto guestTellsSpec)

end Rows
end Go.Proofs.Ytjhfglpgpicmiaa
