/-
  No cell of these rows narrows 'for every input' (looked for: loops, veiled, ifaces, maps, wideKeys, modest, calm, conditions, laid).
  DERIVED. THE GIVEN ROWS OF THIS SEAT. 4 by the template 'for every input the law returns true; each argument reads behind the call as it read before'; 0 by the template 'total and deterministic' (their statements: YtonoabknmmecnaaTotals.lean).
  GIVEN WITH THE SEED: the statements are not yours to turn. If you find one false, say at which input.
  Laid BY PROGRAM, IN A SANDBOX (cutbox-rows.mjs): the forced cells as the released guide's own fill.sh prints them over the translation dee6e1e38e058a38… (all of the seat's roots in one cut). By AI agents, Wed Nov 11 2026. No macro, syntax, notation, axiom, sorry.
-/
import Derived.Test.YtonoabknmmecnaaChecked
import GoSem.Claim
import GoSem.ClaimJoined
import GoSem.ClaimMapViews
import Derived.JoinedTies
import Derived.KernelRfl
namespace Go.Proofs.Ytonoabknmmecnaa
/- THE CELL 'sum', in the pinned program and in every row, IS THE sha256 OF THE DUMP (.gsa) THAT YtonoabknmmecnaaProg.lean LOADS. Nothing in Lean hashes anything: it is a label: what it is worth is what the hold of that sum in a sandbox is worth. -/
noncomputable def Try.pinned : Pinned := { name := "ytonoabknmmecnaa", sum := "dee6e1e38e058a3805c8848f5a44c84c0e3b1734e033c25d90410af86b55e487", checked := Try.checked }
namespace Rows
def none {H : Type} : Left H := { results := [], args := [] }

/-- 'ferrylaw13.ElfReads': WHATEVER THE INPUT: true; the input reads as it did. -/
def elfReadsSpec : ChangeSpec := { name := "elfReads", fn := fun _ => fun
  | [d1, d2] => { results := [.lit (.bool true)], args := [d1, d2] }
  | _ => none }
def elfReadsRow : OpenClaim := { program := "ytonoabknmmecnaa", sum := "dee6e1e38e058a3805c8848f5a44c84c0e3b1734e033c25d90410af86b55e487", func := "ferry/ferrylaw13.ElfReads", spec := "elfReads", inPlace := ["internal/abi.NoEscape"], unfollowed := true, recurses := true, apart := false }
def ElfReadsSaid : Prop := elfReadsRow.holds Try.pinned (OpenSpec.ofChange elfReadsSpec)

/-- ITS FALSE NEIGHBOUR: 'it returns false'. Refute it at one input. -/
def elfReadsWrong : ChangeSpec := { name := "elfReads", fn := fun _ => fun
  | [d1, d2] => { results := [.lit (.bool false)], args := [d1, d2] }
  | _ => none }
def ElfReadsWrongFalsely : Prop := elfReadsRow.holds Try.pinned (OpenSpec.ofChange elfReadsWrong)

/-- 'ferrylaw13.ElfBack': WHATEVER THE INPUT: true; the input reads as it did. -/
def elfBackSpec : ChangeSpec := { name := "elfBack", fn := fun _ => fun
  | [d1, d2] => { results := [.lit (.bool true)], args := [d1, d2] }
  | _ => none }
def elfBackRow : OpenClaim := { program := "ytonoabknmmecnaa", sum := "dee6e1e38e058a3805c8848f5a44c84c0e3b1734e033c25d90410af86b55e487", func := "ferry/ferrylaw13.ElfBack", spec := "elfBack", inPlace := ["internal/abi.NoEscape"], unfollowed := true, recurses := true, apart := false }
def ElfBackSaid : Prop := elfBackRow.holds Try.pinned (OpenSpec.ofChange elfBackSpec)

/-- ITS FALSE NEIGHBOUR: 'it returns false'. Refute it at one input. -/
def elfBackWrong : ChangeSpec := { name := "elfBack", fn := fun _ => fun
  | [d1, d2] => { results := [.lit (.bool false)], args := [d1, d2] }
  | _ => none }
def ElfBackWrongFalsely : Prop := elfBackRow.holds Try.pinned (OpenSpec.ofChange elfBackWrong)

/-- 'ferrylaw13.ElfCuts': WHATEVER THE INPUT: true; the input reads as it did. -/
def elfCutsSpec : ChangeSpec := { name := "elfCuts", fn := fun _ => fun
  | [d1, d2, d3] => { results := [.lit (.bool true)], args := [d1, d2, d3] }
  | _ => none }
def elfCutsRow : OpenClaim := { program := "ytonoabknmmecnaa", sum := "dee6e1e38e058a3805c8848f5a44c84c0e3b1734e033c25d90410af86b55e487", func := "ferry/ferrylaw13.ElfCuts", spec := "elfCuts", inPlace := ["internal/abi.NoEscape"], unfollowed := true, recurses := true, apart := false }
def ElfCutsSaid : Prop := elfCutsRow.holds Try.pinned (OpenSpec.ofChange elfCutsSpec)

/-- ITS FALSE NEIGHBOUR: 'it returns false'. Refute it at one input. -/
def elfCutsWrong : ChangeSpec := { name := "elfCuts", fn := fun _ => fun
  | [d1, d2, d3] => { results := [.lit (.bool false)], args := [d1, d2, d3] }
  | _ => none }
def ElfCutsWrongFalsely : Prop := elfCutsRow.holds Try.pinned (OpenSpec.ofChange elfCutsWrong)

/-- 'ferrylaw13.ElfWrites': WHATEVER THE INPUT: true; the input reads as it did. -/
def elfWritesSpec : ChangeSpec := { name := "elfWrites", fn := fun _ => fun
  | [d1, d2] => { results := [.lit (.bool true)], args := [d1, d2] }
  | _ => none }
def elfWritesRow : OpenClaim := { program := "ytonoabknmmecnaa", sum := "dee6e1e38e058a3805c8848f5a44c84c0e3b1734e033c25d90410af86b55e487", func := "ferry/ferrylaw13.ElfWrites", spec := "elfWrites", inPlace := ["internal/abi.NoEscape"], unfollowed := true, recurses := true, apart := false }
def ElfWritesSaid : Prop := elfWritesRow.holds Try.pinned (OpenSpec.ofChange elfWritesSpec)

/-- ITS FALSE NEIGHBOUR: 'it returns false'. Refute it at one input. -/
def elfWritesWrong : ChangeSpec := { name := "elfWrites", fn := fun _ => fun
  | [d1, d2] => { results := [.lit (.bool false)], args := [d1, d2] }
  | _ => none }
def ElfWritesWrongFalsely : Prop := elfWritesRow.holds Try.pinned (OpenSpec.ofChange elfWritesWrong)

/- THE SECOND FORM. 'bulk': how many values and letters a reading holds, each counted each time it is reached (what is shared counts as often as it is met; a slice's spare places count too). A statement '..UptoSaid' is the law's where the arguments, and the package variables that the reading takes, are together of bulk at most 1048576: NARROWER than '..Said'. Prove '..Said' where nothing that the law and all that it calls make is longer than what came in: it says more and counts as full. Else prove '..UptoSaid'. A law counts once. -/
mutual
def uptoBulk {H : Type} : DataW H → Nat
  | .lit (.string bytes) => bytes.length + 1
  | .lit _ => 1
  | .nil => 1
  | .ptr d => uptoBulk d + 1
  | .slice elems spare => uptoBulkAll elems + uptoBulkAll spare + 1
  | .agg parts => uptoBulkAll parts + 1
  | .iface _ d => uptoBulk d + 1
  | .map entries => uptoBulkEntries entries + 1
  | .held _ => 1
def uptoBulkAll {H : Type} : List (DataW H) → Nat
  | [] => 0
  | d :: r => uptoBulk d + uptoBulkAll r
def uptoBulkEntries {H : Type} : List (Lit × DataW H) → Nat
  | [] => 0
  | x :: r => uptoBulkEntry x + uptoBulkEntries r
def uptoBulkEntry {H : Type} : Lit × DataW H → Nat
  | (.string bytes, d) => bytes.length + uptoBulk d + 1
  | (_, d) => uptoBulk d + 1
 end
def uptoSmall : (H : Type) → List (DataW H) → Bool := fun _ ds => decide (uptoBulkAll ds ≤ 1048576)
def OpenSpec.upto (s : _root_.Go.ChangeSpec) : _root_.Go.OpenSpec := { _root_.Go.OpenSpec.ofChange s with cond := some uptoSmall }

/-- 'ferrylaw13.ElfReads', WHERE WHAT IT READS IS OF BULK AT MOST 1048576: true; the input reads as it did. -/
def elfReadsUptoRow : OpenClaim := { program := "ytonoabknmmecnaa", sum := "dee6e1e38e058a3805c8848f5a44c84c0e3b1734e033c25d90410af86b55e487", func := "ferry/ferrylaw13.ElfReads", spec := "elfReads", inPlace := ["internal/abi.NoEscape"], unfollowed := true, recurses := true, apart := false, narrowed := true }
def ElfReadsUptoSaid : Prop := elfReadsUptoRow.holds Try.pinned (OpenSpec.upto elfReadsSpec)

/-- 'ferrylaw13.ElfBack', WHERE WHAT IT READS IS OF BULK AT MOST 1048576: true; the input reads as it did. -/
def elfBackUptoRow : OpenClaim := { program := "ytonoabknmmecnaa", sum := "dee6e1e38e058a3805c8848f5a44c84c0e3b1734e033c25d90410af86b55e487", func := "ferry/ferrylaw13.ElfBack", spec := "elfBack", inPlace := ["internal/abi.NoEscape"], unfollowed := true, recurses := true, apart := false, narrowed := true }
def ElfBackUptoSaid : Prop := elfBackUptoRow.holds Try.pinned (OpenSpec.upto elfBackSpec)

/-- 'ferrylaw13.ElfCuts', WHERE WHAT IT READS IS OF BULK AT MOST 1048576: true; the input reads as it did. -/
def elfCutsUptoRow : OpenClaim := { program := "ytonoabknmmecnaa", sum := "dee6e1e38e058a3805c8848f5a44c84c0e3b1734e033c25d90410af86b55e487", func := "ferry/ferrylaw13.ElfCuts", spec := "elfCuts", inPlace := ["internal/abi.NoEscape"], unfollowed := true, recurses := true, apart := false, narrowed := true }
def ElfCutsUptoSaid : Prop := elfCutsUptoRow.holds Try.pinned (OpenSpec.upto elfCutsSpec)

/-- 'ferrylaw13.ElfWrites', WHERE WHAT IT READS IS OF BULK AT MOST 1048576: true; the input reads as it did. -/
def elfWritesUptoRow : OpenClaim := { program := "ytonoabknmmecnaa", sum := "dee6e1e38e058a3805c8848f5a44c84c0e3b1734e033c25d90410af86b55e487", func := "ferry/ferrylaw13.ElfWrites", spec := "elfWrites", inPlace := ["internal/abi.NoEscape"], unfollowed := true, recurses := true, apart := false, narrowed := true }
def ElfWritesUptoSaid : Prop := elfWritesUptoRow.holds Try.pinned (OpenSpec.upto elfWritesSpec)

end Rows
end Go.Proofs.Ytonoabknmmecnaa
