/-
  No cell of these rows narrows 'for every input' (looked for: loops, veiled, ifaces, maps, wideKeys, modest, calm, conditions, laid).
  DERIVED. THE GIVEN ROWS OF THIS SEAT. 6 by the template 'for every input the law returns true; each argument reads behind the call as it read before'; 0 by the template 'total and deterministic' (their statements: YtgkjdpdmmlalcaaTotals.lean).
  GIVEN WITH THE SEED: the statements are not yours to turn. If you find one false, say at which input.
  Laid BY PROGRAM, IN A SANDBOX (cutbox-rows.mjs): the forced cells as the released guide's own fill.sh prints them over the translation 74659fb221e730c7… (all of the seat's roots in one cut). By AI agents, Wed Nov 11 2026. No macro, syntax, notation, axiom, sorry.
-/
import Derived.Test.YtgkjdpdmmlalcaaChecked
import GoSem.Claim
import GoSem.ClaimJoined
import GoSem.ClaimMapViews
import Derived.JoinedTies
import Derived.KernelRfl
namespace Go.Proofs.Ytgkjdpdmmlalcaa
/- THE CELL 'sum', in the pinned program and in every row, IS THE sha256 OF THE DUMP (.gsa) THAT YtgkjdpdmmlalcaaProg.lean LOADS. Nothing in Lean hashes anything: it is a label: what it is worth is what the hold of that sum in a sandbox is worth. -/
noncomputable def Try.pinned : Pinned := { name := "ytgkjdpdmmlalcaa", sum := "74659fb221e730c75ace04bfcb1c7013893d086eb7eb27615c538165595f0d5d", checked := Try.checked }
namespace Rows
def none {H : Type} : Left H := { results := [], args := [] }

/-- 'ferrylaw05.GmemBack': WHATEVER THE INPUT: true; the input reads as it did. -/
def gmemBackSpec : ChangeSpec := { name := "gmemBack", fn := fun _ => fun
  | [d1, d2, d3, d4] => { results := [.lit (.bool true)], args := [d1, d2, d3, d4] }
  | _ => none }
def gmemBackRow : OpenClaim := { program := "ytgkjdpdmmlalcaa", sum := "74659fb221e730c75ace04bfcb1c7013893d086eb7eb27615c538165595f0d5d", func := "ferry/ferrylaw05.GmemBack", spec := "gmemBack", inPlace := ["internal/abi.NoEscape", "slices.overlaps[ferry/api.Cell]"], unfollowed := true, recurses := true, apart := false }
def GmemBackSaid : Prop := gmemBackRow.holds Try.pinned (OpenSpec.ofChange gmemBackSpec)

/-- ITS FALSE NEIGHBOUR: 'it returns false'. Refute it at one input. -/
def gmemBackWrong : ChangeSpec := { name := "gmemBack", fn := fun _ => fun
  | [d1, d2, d3, d4] => { results := [.lit (.bool false)], args := [d1, d2, d3, d4] }
  | _ => none }
def GmemBackWrongFalsely : Prop := gmemBackRow.holds Try.pinned (OpenSpec.ofChange gmemBackWrong)

/-- 'ferrylaw05.GmemHalves': WHATEVER THE INPUT: true; the input reads as it did. -/
def gmemHalvesSpec : ChangeSpec := { name := "gmemHalves", fn := fun _ => fun
  | [d1, d2, d3, d4] => { results := [.lit (.bool true)], args := [d1, d2, d3, d4] }
  | _ => none }
def gmemHalvesRow : OpenClaim := { program := "ytgkjdpdmmlalcaa", sum := "74659fb221e730c75ace04bfcb1c7013893d086eb7eb27615c538165595f0d5d", func := "ferry/ferrylaw05.GmemHalves", spec := "gmemHalves", inPlace := ["internal/abi.NoEscape", "slices.overlaps[ferry/api.Cell]"], unfollowed := true, recurses := true, apart := false }
def GmemHalvesSaid : Prop := gmemHalvesRow.holds Try.pinned (OpenSpec.ofChange gmemHalvesSpec)

/-- ITS FALSE NEIGHBOUR: 'it returns false'. Refute it at one input. -/
def gmemHalvesWrong : ChangeSpec := { name := "gmemHalves", fn := fun _ => fun
  | [d1, d2, d3, d4] => { results := [.lit (.bool false)], args := [d1, d2, d3, d4] }
  | _ => none }
def GmemHalvesWrongFalsely : Prop := gmemHalvesRow.holds Try.pinned (OpenSpec.ofChange gmemHalvesWrong)

/-- 'ferrylaw05.GmemWrites': WHATEVER THE INPUT: true; the input reads as it did. -/
def gmemWritesSpec : ChangeSpec := { name := "gmemWrites", fn := fun _ => fun
  | [d1, d2, d3, d4, d5] => { results := [.lit (.bool true)], args := [d1, d2, d3, d4, d5] }
  | _ => none }
def gmemWritesRow : OpenClaim := { program := "ytgkjdpdmmlalcaa", sum := "74659fb221e730c75ace04bfcb1c7013893d086eb7eb27615c538165595f0d5d", func := "ferry/ferrylaw05.GmemWrites", spec := "gmemWrites", inPlace := ["internal/abi.NoEscape", "slices.overlaps[ferry/api.Cell]"], unfollowed := true, recurses := true, apart := false }
def GmemWritesSaid : Prop := gmemWritesRow.holds Try.pinned (OpenSpec.ofChange gmemWritesSpec)

/-- ITS FALSE NEIGHBOUR: 'it returns false'. Refute it at one input. -/
def gmemWritesWrong : ChangeSpec := { name := "gmemWrites", fn := fun _ => fun
  | [d1, d2, d3, d4, d5] => { results := [.lit (.bool false)], args := [d1, d2, d3, d4, d5] }
  | _ => none }
def GmemWritesWrongFalsely : Prop := gmemWritesRow.holds Try.pinned (OpenSpec.ofChange gmemWritesWrong)

/-- 'ferrylaw05.GmemReads': WHATEVER THE INPUT: true; the input reads as it did. -/
def gmemReadsSpec : ChangeSpec := { name := "gmemReads", fn := fun _ => fun
  | [d1, d2, d3, d4, d5] => { results := [.lit (.bool true)], args := [d1, d2, d3, d4, d5] }
  | _ => none }
def gmemReadsRow : OpenClaim := { program := "ytgkjdpdmmlalcaa", sum := "74659fb221e730c75ace04bfcb1c7013893d086eb7eb27615c538165595f0d5d", func := "ferry/ferrylaw05.GmemReads", spec := "gmemReads", inPlace := ["internal/abi.NoEscape", "slices.overlaps[ferry/api.Cell]"], unfollowed := true, recurses := true, apart := false }
def GmemReadsSaid : Prop := gmemReadsRow.holds Try.pinned (OpenSpec.ofChange gmemReadsSpec)

/-- ITS FALSE NEIGHBOUR: 'it returns false'. Refute it at one input. -/
def gmemReadsWrong : ChangeSpec := { name := "gmemReads", fn := fun _ => fun
  | [d1, d2, d3, d4, d5] => { results := [.lit (.bool false)], args := [d1, d2, d3, d4, d5] }
  | _ => none }
def GmemReadsWrongFalsely : Prop := gmemReadsRow.holds Try.pinned (OpenSpec.ofChange gmemReadsWrong)

/-- 'ferrylaw05.GmemTexts': WHATEVER THE INPUT: true; the input reads as it did. -/
def gmemTextsSpec : ChangeSpec := { name := "gmemTexts", fn := fun _ => fun
  | [d1, d2, d3] => { results := [.lit (.bool true)], args := [d1, d2, d3] }
  | _ => none }
def gmemTextsRow : OpenClaim := { program := "ytgkjdpdmmlalcaa", sum := "74659fb221e730c75ace04bfcb1c7013893d086eb7eb27615c538165595f0d5d", func := "ferry/ferrylaw05.GmemTexts", spec := "gmemTexts", inPlace := ["internal/bytealg.IndexByteString", "internal/bytealg.IndexString", "internal/abi.NoEscape", "slices.overlaps[ferry/api.Cell]"], unfollowed := true, recurses := true, named := ["internal/bytealg.MaxLen"], apart := false }
def GmemTextsSaid : Prop := gmemTextsRow.holds Try.pinned (OpenSpec.ofChange gmemTextsSpec)

/-- ITS FALSE NEIGHBOUR: 'it returns false'. Refute it at one input. -/
def gmemTextsWrong : ChangeSpec := { name := "gmemTexts", fn := fun _ => fun
  | [d1, d2, d3] => { results := [.lit (.bool false)], args := [d1, d2, d3] }
  | _ => none }
def GmemTextsWrongFalsely : Prop := gmemTextsRow.holds Try.pinned (OpenSpec.ofChange gmemTextsWrong)

/-- 'ferrylaw06.GmapBack': WHATEVER THE INPUT: true; the input reads as it did. -/
def gmapBackSpec : ChangeSpec := { name := "gmapBack", fn := fun _ => fun
  | [d1, d2, d3, d4] => { results := [.lit (.bool true)], args := [d1, d2, d3, d4] }
  | _ => none }
def gmapBackRow : OpenClaim := { program := "ytgkjdpdmmlalcaa", sum := "74659fb221e730c75ace04bfcb1c7013893d086eb7eb27615c538165595f0d5d", func := "ferry/ferrylaw06.GmapBack", spec := "gmapBack", inPlace := ["slices.overlaps[ferry/api.Map]", "slices.overlaps[ferry/api.Page]"], unfollowed := true, recurses := true, apart := false }
def GmapBackSaid : Prop := gmapBackRow.holds Try.pinned (OpenSpec.ofChange gmapBackSpec)

/-- ITS FALSE NEIGHBOUR: 'it returns false'. Refute it at one input. -/
def gmapBackWrong : ChangeSpec := { name := "gmapBack", fn := fun _ => fun
  | [d1, d2, d3, d4] => { results := [.lit (.bool false)], args := [d1, d2, d3, d4] }
  | _ => none }
def GmapBackWrongFalsely : Prop := gmapBackRow.holds Try.pinned (OpenSpec.ofChange gmapBackWrong)

/- THE SECOND FORM. 'bulk': how many values and letters a reading holds, each counted each time it is reached (what is shared counts as often as it is met; a slice's spare places count too). A statement '..UptoSaid' is the law's where the arguments, and the package variables that the reading takes, are together of bulk at most 1048576: NARROWER than '..Said'. Prove '..Said' where nothing that the law and all that it calls make is longer than what came in: it says more and counts as full. Else prove '..UptoSaid'. A law counts once. -/
mutual
def uptoBulk {H : Type} : DataW H → Nat
  | .lit (.string bytes) => bytes.length + 1
  | .lit _ => 1
  | .nil => 1
  | .ptr d => uptoBulk d + 1
  | .slice elems spare => uptoBulkAll elems + uptoBulkAll spare + 1
  | .agg parts => uptoBulkAll parts + 1
  | .iface _ d => uptoBulk d + 1
  | .map entries => uptoBulkEntries entries + 1
  | .held _ => 1
def uptoBulkAll {H : Type} : List (DataW H) → Nat
  | [] => 0
  | d :: r => uptoBulk d + uptoBulkAll r
def uptoBulkEntries {H : Type} : List (Lit × DataW H) → Nat
  | [] => 0
  | x :: r => uptoBulkEntry x + uptoBulkEntries r
def uptoBulkEntry {H : Type} : Lit × DataW H → Nat
  | (.string bytes, d) => bytes.length + uptoBulk d + 1
  | (_, d) => uptoBulk d + 1
 end
def uptoSmall : (H : Type) → List (DataW H) → Bool := fun _ ds => decide (uptoBulkAll ds ≤ 1048576)
def OpenSpec.upto (s : _root_.Go.ChangeSpec) : _root_.Go.OpenSpec := { _root_.Go.OpenSpec.ofChange s with cond := some uptoSmall }

/-- 'ferrylaw05.GmemBack', WHERE WHAT IT READS IS OF BULK AT MOST 1048576: true; the input reads as it did. -/
def gmemBackUptoRow : OpenClaim := { program := "ytgkjdpdmmlalcaa", sum := "74659fb221e730c75ace04bfcb1c7013893d086eb7eb27615c538165595f0d5d", func := "ferry/ferrylaw05.GmemBack", spec := "gmemBack", inPlace := ["internal/abi.NoEscape", "slices.overlaps[ferry/api.Cell]"], unfollowed := true, recurses := true, apart := false, narrowed := true }
def GmemBackUptoSaid : Prop := gmemBackUptoRow.holds Try.pinned (OpenSpec.upto gmemBackSpec)

/-- 'ferrylaw05.GmemHalves', WHERE WHAT IT READS IS OF BULK AT MOST 1048576: true; the input reads as it did. -/
def gmemHalvesUptoRow : OpenClaim := { program := "ytgkjdpdmmlalcaa", sum := "74659fb221e730c75ace04bfcb1c7013893d086eb7eb27615c538165595f0d5d", func := "ferry/ferrylaw05.GmemHalves", spec := "gmemHalves", inPlace := ["internal/abi.NoEscape", "slices.overlaps[ferry/api.Cell]"], unfollowed := true, recurses := true, apart := false, narrowed := true }
def GmemHalvesUptoSaid : Prop := gmemHalvesUptoRow.holds Try.pinned (OpenSpec.upto gmemHalvesSpec)

/-- 'ferrylaw05.GmemWrites', WHERE WHAT IT READS IS OF BULK AT MOST 1048576: true; the input reads as it did. -/
def gmemWritesUptoRow : OpenClaim := { program := "ytgkjdpdmmlalcaa", sum := "74659fb221e730c75ace04bfcb1c7013893d086eb7eb27615c538165595f0d5d", func := "ferry/ferrylaw05.GmemWrites", spec := "gmemWrites", inPlace := ["internal/abi.NoEscape", "slices.overlaps[ferry/api.Cell]"], unfollowed := true, recurses := true, apart := false, narrowed := true }
def GmemWritesUptoSaid : Prop := gmemWritesUptoRow.holds Try.pinned (OpenSpec.upto gmemWritesSpec)

/-- 'ferrylaw05.GmemReads', WHERE WHAT IT READS IS OF BULK AT MOST 1048576: true; the input reads as it did. -/
def gmemReadsUptoRow : OpenClaim := { program := "ytgkjdpdmmlalcaa", sum := "74659fb221e730c75ace04bfcb1c7013893d086eb7eb27615c538165595f0d5d", func := "ferry/ferrylaw05.GmemReads", spec := "gmemReads", inPlace := ["internal/abi.NoEscape", "slices.overlaps[ferry/api.Cell]"], unfollowed := true, recurses := true, apart := false, narrowed := true }
def GmemReadsUptoSaid : Prop := gmemReadsUptoRow.holds Try.pinned (OpenSpec.upto gmemReadsSpec)

/-- 'ferrylaw05.GmemTexts', WHERE WHAT IT READS IS OF BULK AT MOST 1048576: true; the input reads as it did. -/
def gmemTextsUptoRow : OpenClaim := { program := "ytgkjdpdmmlalcaa", sum := "74659fb221e730c75ace04bfcb1c7013893d086eb7eb27615c538165595f0d5d", func := "ferry/ferrylaw05.GmemTexts", spec := "gmemTexts", inPlace := ["internal/bytealg.IndexByteString", "internal/bytealg.IndexString", "internal/abi.NoEscape", "slices.overlaps[ferry/api.Cell]"], unfollowed := true, recurses := true, named := ["internal/bytealg.MaxLen"], apart := false, narrowed := true }
def GmemTextsUptoSaid : Prop := gmemTextsUptoRow.holds Try.pinned (OpenSpec.upto gmemTextsSpec)

/-- 'ferrylaw06.GmapBack', WHERE WHAT IT READS IS OF BULK AT MOST 1048576: true; the input reads as it did. -/
def gmapBackUptoRow : OpenClaim := { program := "ytgkjdpdmmlalcaa", sum := "74659fb221e730c75ace04bfcb1c7013893d086eb7eb27615c538165595f0d5d", func := "ferry/ferrylaw06.GmapBack", spec := "gmapBack", inPlace := ["slices.overlaps[ferry/api.Map]", "slices.overlaps[ferry/api.Page]"], unfollowed := true, recurses := true, apart := false, narrowed := true }
def GmapBackUptoSaid : Prop := gmapBackUptoRow.holds Try.pinned (OpenSpec.upto gmapBackSpec)

end Rows
end Go.Proofs.Ytgkjdpdmmlalcaa
