/-
  No cell of these rows narrows 'for every input' (looked for: loops, veiled, ifaces, maps, wideKeys, modest, calm, conditions, laid).
  DERIVED. THE GIVEN ROWS OF THIS SEAT. 6 by the template 'for every input the law returns true; each argument reads behind the call as it read before'; 0 by the template 'total and deterministic' (their statements: YtadmaagbnepcfaaTotals.lean).
  GIVEN WITH THE SEED: the statements are not yours to turn. If you find one false, say at which input.
  Laid BY PROGRAM, IN A SANDBOX (cutbox-rows.mjs): the forced cells as the released guide's own fill.sh prints them over the translation 5b9fcf96f251512f… (all of the seat's roots in one cut). By AI agents, Wed Nov 11 2026. No macro, syntax, notation, axiom, sorry.
-/
import Derived.Test.YtadmaagbnepcfaaChecked
import GoSem.Claim
import GoSem.ClaimJoined
import GoSem.ClaimMapViews
import Derived.JoinedTies
import Derived.KernelRfl
namespace Go.Proofs.Ytadmaagbnepcfaa
/- THE CELL 'sum', in the pinned program and in every row, IS THE sha256 OF THE DUMP (.gsa) THAT YtadmaagbnepcfaaProg.lean LOADS. Nothing in Lean hashes anything: it is a label: what it is worth is what the hold of that sum in a sandbox is worth. -/
noncomputable def Try.pinned : Pinned := { name := "ytadmaagbnepcfaa", sum := "5b9fcf96f251512f29fc1864d2289e3aaf083f42d87e5b65f4c0c74810cd963e", checked := Try.checked }
namespace Rows
def none {H : Type} : Left H := { results := [], args := [] }

/-- 'ferrylaw18.RelocValues': WHATEVER THE INPUT: true; the input reads as it did. -/
def relocValuesSpec : ChangeSpec := { name := "relocValues", fn := fun _ => fun
  | [d1, d2, d3, d4] => { results := [.lit (.bool true)], args := [d1, d2, d3, d4] }
  | _ => none }
def relocValuesRow : OpenClaim := { program := "ytadmaagbnepcfaa", sum := "5b9fcf96f251512f29fc1864d2289e3aaf083f42d87e5b65f4c0c74810cd963e", func := "ferry/ferrylaw18.RelocValues", spec := "relocValues", apart := false }
def RelocValuesSaid : Prop := relocValuesRow.holds Try.pinned (OpenSpec.ofChange relocValuesSpec)

/-- ITS FALSE NEIGHBOUR: 'it returns false'. Refute it at one input. -/
def relocValuesWrong : ChangeSpec := { name := "relocValues", fn := fun _ => fun
  | [d1, d2, d3, d4] => { results := [.lit (.bool false)], args := [d1, d2, d3, d4] }
  | _ => none }
def RelocValuesWrongFalsely : Prop := relocValuesRow.holds Try.pinned (OpenSpec.ofChange relocValuesWrong)

/-- 'ferrylaw01.SwapBits': WHATEVER THE INPUT: true; the input reads as it did. -/
def swapBitsSpec : ChangeSpec := { name := "swapBits", fn := fun _ => fun
  | [d1, d2, d3, d4] => { results := [.lit (.bool true)], args := [d1, d2, d3, d4] }
  | _ => none }
def swapBitsRow : OpenClaim := { program := "ytadmaagbnepcfaa", sum := "5b9fcf96f251512f29fc1864d2289e3aaf083f42d87e5b65f4c0c74810cd963e", func := "ferry/ferrylaw01.SwapBits", spec := "swapBits", inPlace := ["internal/abi.NoEscape"], unfollowed := true, recurses := true, apart := false }
def SwapBitsSaid : Prop := swapBitsRow.holds Try.pinned (OpenSpec.ofChange swapBitsSpec)

/-- ITS FALSE NEIGHBOUR: 'it returns false'. Refute it at one input. -/
def swapBitsWrong : ChangeSpec := { name := "swapBits", fn := fun _ => fun
  | [d1, d2, d3, d4] => { results := [.lit (.bool false)], args := [d1, d2, d3, d4] }
  | _ => none }
def SwapBitsWrongFalsely : Prop := swapBitsRow.holds Try.pinned (OpenSpec.ofChange swapBitsWrong)

/-- 'ferrylaw01.SwapTurns': WHATEVER THE INPUT: true; the input reads as it did. -/
def swapTurnsSpec : ChangeSpec := { name := "swapTurns", fn := fun _ => fun
  | [d1, d2, d3, d4] => { results := [.lit (.bool true)], args := [d1, d2, d3, d4] }
  | _ => none }
def swapTurnsRow : OpenClaim := { program := "ytadmaagbnepcfaa", sum := "5b9fcf96f251512f29fc1864d2289e3aaf083f42d87e5b65f4c0c74810cd963e", func := "ferry/ferrylaw01.SwapTurns", spec := "swapTurns", inPlace := ["internal/abi.NoEscape"], unfollowed := true, recurses := true, apart := false }
def SwapTurnsSaid : Prop := swapTurnsRow.holds Try.pinned (OpenSpec.ofChange swapTurnsSpec)

/-- ITS FALSE NEIGHBOUR: 'it returns false'. Refute it at one input. -/
def swapTurnsWrong : ChangeSpec := { name := "swapTurns", fn := fun _ => fun
  | [d1, d2, d3, d4] => { results := [.lit (.bool false)], args := [d1, d2, d3, d4] }
  | _ => none }
def SwapTurnsWrongFalsely : Prop := swapTurnsRow.holds Try.pinned (OpenSpec.ofChange swapTurnsWrong)

/-- 'ferrylaw01.SwapTells': WHATEVER THE INPUT: true; the input reads as it did. -/
def swapTellsSpec : ChangeSpec := { name := "swapTells", fn := fun _ => fun
  | [d1, d2, d3] => { results := [.lit (.bool true)], args := [d1, d2, d3] }
  | _ => none }
def swapTellsRow : OpenClaim := { program := "ytadmaagbnepcfaa", sum := "5b9fcf96f251512f29fc1864d2289e3aaf083f42d87e5b65f4c0c74810cd963e", func := "ferry/ferrylaw01.SwapTells", spec := "swapTells", inPlace := ["internal/abi.NoEscape"], unfollowed := true, recurses := true, apart := false }
def SwapTellsSaid : Prop := swapTellsRow.holds Try.pinned (OpenSpec.ofChange swapTellsSpec)

/-- ITS FALSE NEIGHBOUR: 'it returns false'. Refute it at one input. -/
def swapTellsWrong : ChangeSpec := { name := "swapTells", fn := fun _ => fun
  | [d1, d2, d3] => { results := [.lit (.bool false)], args := [d1, d2, d3] }
  | _ => none }
def SwapTellsWrongFalsely : Prop := swapTellsRow.holds Try.pinned (OpenSpec.ofChange swapTellsWrong)

/-- 'ferrylaw01.SwapBack': WHATEVER THE INPUT: true; the input reads as it did. -/
def swapBackSpec : ChangeSpec := { name := "swapBack", fn := fun _ => fun
  | [d1, d2] => { results := [.lit (.bool true)], args := [d1, d2] }
  | _ => none }
def swapBackRow : OpenClaim := { program := "ytadmaagbnepcfaa", sum := "5b9fcf96f251512f29fc1864d2289e3aaf083f42d87e5b65f4c0c74810cd963e", func := "ferry/ferrylaw01.SwapBack", spec := "swapBack", inPlace := ["internal/abi.NoEscape"], unfollowed := true, recurses := true, apart := false }
def SwapBackSaid : Prop := swapBackRow.holds Try.pinned (OpenSpec.ofChange swapBackSpec)

/-- ITS FALSE NEIGHBOUR: 'it returns false'. Refute it at one input. -/
def swapBackWrong : ChangeSpec := { name := "swapBack", fn := fun _ => fun
  | [d1, d2] => { results := [.lit (.bool false)], args := [d1, d2] }
  | _ => none }
def SwapBackWrongFalsely : Prop := swapBackRow.holds Try.pinned (OpenSpec.ofChange swapBackWrong)

/-- 'ferrylaw01.SwapHalves': WHATEVER THE INPUT: true; the input reads as it did. -/
def swapHalvesSpec : ChangeSpec := { name := "swapHalves", fn := fun _ => fun
  | [d1, d2] => { results := [.lit (.bool true)], args := [d1, d2] }
  | _ => none }
def swapHalvesRow : OpenClaim := { program := "ytadmaagbnepcfaa", sum := "5b9fcf96f251512f29fc1864d2289e3aaf083f42d87e5b65f4c0c74810cd963e", func := "ferry/ferrylaw01.SwapHalves", spec := "swapHalves", inPlace := ["internal/abi.NoEscape"], unfollowed := true, recurses := true, apart := false }
def SwapHalvesSaid : Prop := swapHalvesRow.holds Try.pinned (OpenSpec.ofChange swapHalvesSpec)

/-- ITS FALSE NEIGHBOUR: 'it returns false'. Refute it at one input. -/
def swapHalvesWrong : ChangeSpec := { name := "swapHalves", fn := fun _ => fun
  | [d1, d2] => { results := [.lit (.bool false)], args := [d1, d2] }
  | _ => none }
def SwapHalvesWrongFalsely : Prop := swapHalvesRow.holds Try.pinned (OpenSpec.ofChange swapHalvesWrong)

/- THE SECOND FORM. 'bulk': how many values and letters a reading holds, each counted each time it is reached (what is shared counts as often as it is met; a slice's spare places count too). A statement '..UptoSaid' is the law's where the arguments, and the package variables that the reading takes, are together of bulk at most 1048576: NARROWER than '..Said'. Prove '..Said' where nothing that the law and all that it calls make is longer than what came in: it says more and counts as full. Else prove '..UptoSaid'. A law counts once. -/
mutual
def uptoBulk {H : Type} : DataW H → Nat
  | .lit (.string bytes) => bytes.length + 1
  | .lit _ => 1
  | .nil => 1
  | .ptr d => uptoBulk d + 1
  | .slice elems spare => uptoBulkAll elems + uptoBulkAll spare + 1
  | .agg parts => uptoBulkAll parts + 1
  | .iface _ d => uptoBulk d + 1
  | .map entries => uptoBulkEntries entries + 1
  | .held _ => 1
def uptoBulkAll {H : Type} : List (DataW H) → Nat
  | [] => 0
  | d :: r => uptoBulk d + uptoBulkAll r
def uptoBulkEntries {H : Type} : List (Lit × DataW H) → Nat
  | [] => 0
  | x :: r => uptoBulkEntry x + uptoBulkEntries r
def uptoBulkEntry {H : Type} : Lit × DataW H → Nat
  | (.string bytes, d) => bytes.length + uptoBulk d + 1
  | (_, d) => uptoBulk d + 1
 end
def uptoSmall : (H : Type) → List (DataW H) → Bool := fun _ ds => decide (uptoBulkAll ds ≤ 1048576)
def OpenSpec.upto (s : _root_.Go.ChangeSpec) : _root_.Go.OpenSpec := { _root_.Go.OpenSpec.ofChange s with cond := some uptoSmall }

/-- 'ferrylaw18.RelocValues', WHERE WHAT IT READS IS OF BULK AT MOST 1048576: true; the input reads as it did. -/
def relocValuesUptoRow : OpenClaim := { program := "ytadmaagbnepcfaa", sum := "5b9fcf96f251512f29fc1864d2289e3aaf083f42d87e5b65f4c0c74810cd963e", func := "ferry/ferrylaw18.RelocValues", spec := "relocValues", apart := false, narrowed := true }
def RelocValuesUptoSaid : Prop := relocValuesUptoRow.holds Try.pinned (OpenSpec.upto relocValuesSpec)

/-- 'ferrylaw01.SwapBits', WHERE WHAT IT READS IS OF BULK AT MOST 1048576: true; the input reads as it did. -/
def swapBitsUptoRow : OpenClaim := { program := "ytadmaagbnepcfaa", sum := "5b9fcf96f251512f29fc1864d2289e3aaf083f42d87e5b65f4c0c74810cd963e", func := "ferry/ferrylaw01.SwapBits", spec := "swapBits", inPlace := ["internal/abi.NoEscape"], unfollowed := true, recurses := true, apart := false, narrowed := true }
def SwapBitsUptoSaid : Prop := swapBitsUptoRow.holds Try.pinned (OpenSpec.upto swapBitsSpec)

/-- 'ferrylaw01.SwapTurns', WHERE WHAT IT READS IS OF BULK AT MOST 1048576: true; the input reads as it did. -/
def swapTurnsUptoRow : OpenClaim := { program := "ytadmaagbnepcfaa", sum := "5b9fcf96f251512f29fc1864d2289e3aaf083f42d87e5b65f4c0c74810cd963e", func := "ferry/ferrylaw01.SwapTurns", spec := "swapTurns", inPlace := ["internal/abi.NoEscape"], unfollowed := true, recurses := true, apart := false, narrowed := true }
def SwapTurnsUptoSaid : Prop := swapTurnsUptoRow.holds Try.pinned (OpenSpec.upto swapTurnsSpec)

/-- 'ferrylaw01.SwapTells', WHERE WHAT IT READS IS OF BULK AT MOST 1048576: true; the input reads as it did. -/
def swapTellsUptoRow : OpenClaim := { program := "ytadmaagbnepcfaa", sum := "5b9fcf96f251512f29fc1864d2289e3aaf083f42d87e5b65f4c0c74810cd963e", func := "ferry/ferrylaw01.SwapTells", spec := "swapTells", inPlace := ["internal/abi.NoEscape"], unfollowed := true, recurses := true, apart := false, narrowed := true }
def SwapTellsUptoSaid : Prop := swapTellsUptoRow.holds Try.pinned (OpenSpec.upto swapTellsSpec)

/-- 'ferrylaw01.SwapBack', WHERE WHAT IT READS IS OF BULK AT MOST 1048576: true; the input reads as it did. -/
def swapBackUptoRow : OpenClaim := { program := "ytadmaagbnepcfaa", sum := "5b9fcf96f251512f29fc1864d2289e3aaf083f42d87e5b65f4c0c74810cd963e", func := "ferry/ferrylaw01.SwapBack", spec := "swapBack", inPlace := ["internal/abi.NoEscape"], unfollowed := true, recurses := true, apart := false, narrowed := true }
def SwapBackUptoSaid : Prop := swapBackUptoRow.holds Try.pinned (OpenSpec.upto swapBackSpec)

/-- 'ferrylaw01.SwapHalves', WHERE WHAT IT READS IS OF BULK AT MOST 1048576: true; the input reads as it did. -/
def swapHalvesUptoRow : OpenClaim := { program := "ytadmaagbnepcfaa", sum := "5b9fcf96f251512f29fc1864d2289e3aaf083f42d87e5b65f4c0c74810cd963e", func := "ferry/ferrylaw01.SwapHalves", spec := "swapHalves", inPlace := ["internal/abi.NoEscape"], unfollowed := true, recurses := true, apart := false, narrowed := true }
def SwapHalvesUptoSaid : Prop := swapHalvesUptoRow.holds Try.pinned (OpenSpec.upto swapHalvesSpec)

end Rows
end Go.Proofs.Ytadmaagbnepcfaa
