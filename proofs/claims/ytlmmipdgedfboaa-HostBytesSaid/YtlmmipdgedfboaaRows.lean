/-
  No cell of these rows narrows 'for every input' (looked for: loops, veiled, ifaces, maps, wideKeys, modest, calm, conditions, laid).
  DERIVED. THE GIVEN ROWS OF THIS SEAT. 5 by the template 'for every input the law returns true; each argument reads behind the call as it read before'; 0 by the template 'total and deterministic' (their statements: YtlmmipdgedfboaaTotals.lean).
  GIVEN WITH THE SEED: the statements are not yours to turn. If you find one false, say at which input.
  Laid BY PROGRAM, IN A SANDBOX (cutbox-rows.mjs): the forced cells as the released guide's own fill.sh prints them over the translation ade526a5b935e4e1… (all of the seat's roots in one cut). By AI agents, Wed Nov 11 2026. No macro, syntax, notation, axiom, sorry.
-/
import Derived.Test.YtlmmipdgedfboaaChecked
import GoSem.Claim
import GoSem.ClaimJoined
import GoSem.ClaimMapViews
import Derived.JoinedTies
import Derived.KernelRfl
namespace Go.Proofs.Ytlmmipdgedfboaa
/- THE CELL 'sum', in the pinned program and in every row, IS THE sha256 OF THE DUMP (.gsa) THAT YtlmmipdgedfboaaProg.lean LOADS. Nothing in Lean hashes anything: it is a label: what it is worth is what the hold of that sum in a sandbox is worth. -/
noncomputable def Try.pinned : Pinned := { name := "ytlmmipdgedfboaa", sum := "ade526a5b935e4e142b74c839f68c147c733559c5075d4896ad47ddec0987f61", checked := Try.checked }
namespace Rows
def none {H : Type} : Left H := { results := [], args := [] }

/-- 'ferrylaw03.HostBack': WHATEVER THE INPUT: true; the input reads as it did. -/
def hostBackSpec : ChangeSpec := { name := "hostBack", fn := fun _ => fun
  | [d1, d2, d3, d4, d5] => { results := [.lit (.bool true)], args := [d1, d2, d3, d4, d5] }
  | _ => none }
def hostBackRow : OpenClaim := { program := "ytlmmipdgedfboaa", sum := "ade526a5b935e4e142b74c839f68c147c733559c5075d4896ad47ddec0987f61", func := "ferry/ferrylaw03.HostBack", spec := "hostBack", inPlace := ["slices.overlaps[ferry/api.Map]", "slices.overlaps[ferry/api.Cell]"], unfollowed := true, recurses := true, apart := false }
def HostBackSaid : Prop := hostBackRow.holds Try.pinned (OpenSpec.ofChange hostBackSpec)

/-- ITS FALSE NEIGHBOUR: 'it returns false'. Refute it at one input. -/
def hostBackWrong : ChangeSpec := { name := "hostBack", fn := fun _ => fun
  | [d1, d2, d3, d4, d5] => { results := [.lit (.bool false)], args := [d1, d2, d3, d4, d5] }
  | _ => none }
def HostBackWrongFalsely : Prop := hostBackRow.holds Try.pinned (OpenSpec.ofChange hostBackWrong)

/-- 'ferrylaw03.HostFresh': WHATEVER THE INPUT: true; the input reads as it did. -/
def hostFreshSpec : ChangeSpec := { name := "hostFresh", fn := fun _ => fun
  | [d1, d2, d3, d4] => { results := [.lit (.bool true)], args := [d1, d2, d3, d4] }
  | _ => none }
def hostFreshRow : OpenClaim := { program := "ytlmmipdgedfboaa", sum := "ade526a5b935e4e142b74c839f68c147c733559c5075d4896ad47ddec0987f61", func := "ferry/ferrylaw03.HostFresh", spec := "hostFresh", inPlace := ["slices.overlaps[ferry/api.Map]", "slices.overlaps[ferry/api.Cell]"], unfollowed := true, recurses := true, apart := false }
def HostFreshSaid : Prop := hostFreshRow.holds Try.pinned (OpenSpec.ofChange hostFreshSpec)

/-- ITS FALSE NEIGHBOUR: 'it returns false'. Refute it at one input. -/
def hostFreshWrong : ChangeSpec := { name := "hostFresh", fn := fun _ => fun
  | [d1, d2, d3, d4] => { results := [.lit (.bool false)], args := [d1, d2, d3, d4] }
  | _ => none }
def HostFreshWrongFalsely : Prop := hostFreshRow.holds Try.pinned (OpenSpec.ofChange hostFreshWrong)

/-- 'ferrylaw03.HostBytes': WHATEVER THE INPUT: true; the input reads as it did. -/
def hostBytesSpec : ChangeSpec := { name := "hostBytes", fn := fun _ => fun
  | [d1, d2, d3, d4, d5] => { results := [.lit (.bool true)], args := [d1, d2, d3, d4, d5] }
  | _ => none }
def hostBytesRow : OpenClaim := { program := "ytlmmipdgedfboaa", sum := "ade526a5b935e4e142b74c839f68c147c733559c5075d4896ad47ddec0987f61", func := "ferry/ferrylaw03.HostBytes", spec := "hostBytes", inPlace := ["slices.overlaps[ferry/api.Map]", "slices.overlaps[ferry/api.Cell]"], unfollowed := true, recurses := true, apart := false }
def HostBytesSaid : Prop := hostBytesRow.holds Try.pinned (OpenSpec.ofChange hostBytesSpec)

/-- ITS FALSE NEIGHBOUR: 'it returns false'. Refute it at one input. -/
def hostBytesWrong : ChangeSpec := { name := "hostBytes", fn := fun _ => fun
  | [d1, d2, d3, d4, d5] => { results := [.lit (.bool false)], args := [d1, d2, d3, d4, d5] }
  | _ => none }
def HostBytesWrongFalsely : Prop := hostBytesRow.holds Try.pinned (OpenSpec.ofChange hostBytesWrong)

/-- 'ferrylaw03.HostParts': WHATEVER THE INPUT: true; the input reads as it did. -/
def hostPartsSpec : ChangeSpec := { name := "hostParts", fn := fun _ => fun
  | [d1, d2, d3, d4] => { results := [.lit (.bool true)], args := [d1, d2, d3, d4] }
  | _ => none }
def hostPartsRow : OpenClaim := { program := "ytlmmipdgedfboaa", sum := "ade526a5b935e4e142b74c839f68c147c733559c5075d4896ad47ddec0987f61", func := "ferry/ferrylaw03.HostParts", spec := "hostParts", inPlace := ["slices.overlaps[ferry/api.Map]", "slices.overlaps[ferry/api.Cell]"], unfollowed := true, recurses := true, apart := false }
def HostPartsSaid : Prop := hostPartsRow.holds Try.pinned (OpenSpec.ofChange hostPartsSpec)

/-- ITS FALSE NEIGHBOUR: 'it returns false'. Refute it at one input. -/
def hostPartsWrong : ChangeSpec := { name := "hostParts", fn := fun _ => fun
  | [d1, d2, d3, d4] => { results := [.lit (.bool false)], args := [d1, d2, d3, d4] }
  | _ => none }
def HostPartsWrongFalsely : Prop := hostPartsRow.holds Try.pinned (OpenSpec.ofChange hostPartsWrong)

/-- 'ferrylaw03.HostPages': WHATEVER THE INPUT: true; the input reads as it did. -/
def hostPagesSpec : ChangeSpec := { name := "hostPages", fn := fun _ => fun
  | [d1, d2, d3, d4, d5] => { results := [.lit (.bool true)], args := [d1, d2, d3, d4, d5] }
  | _ => none }
def hostPagesRow : OpenClaim := { program := "ytlmmipdgedfboaa", sum := "ade526a5b935e4e142b74c839f68c147c733559c5075d4896ad47ddec0987f61", func := "ferry/ferrylaw03.HostPages", spec := "hostPages", inPlace := ["slices.overlaps[ferry/api.Map]", "slices.overlaps[ferry/api.Cell]"], unfollowed := true, recurses := true, apart := false }
def HostPagesSaid : Prop := hostPagesRow.holds Try.pinned (OpenSpec.ofChange hostPagesSpec)

/-- ITS FALSE NEIGHBOUR: 'it returns false'. Refute it at one input. -/
def hostPagesWrong : ChangeSpec := { name := "hostPages", fn := fun _ => fun
  | [d1, d2, d3, d4, d5] => { results := [.lit (.bool false)], args := [d1, d2, d3, d4, d5] }
  | _ => none }
def HostPagesWrongFalsely : Prop := hostPagesRow.holds Try.pinned (OpenSpec.ofChange hostPagesWrong)

/- THE SECOND FORM. 'bulk': how many values and letters a reading holds, each counted each time it is reached (what is shared counts as often as it is met; a slice's spare places count too). A statement '..UptoSaid' is the law's where the arguments, and the package variables that the reading takes, are together of bulk at most 1048576: NARROWER than '..Said'. Prove '..Said' where nothing that the law and all that it calls make is longer than what came in: it says more and counts as full. Else prove '..UptoSaid'. A law counts once. -/
mutual
def uptoBulk {H : Type} : DataW H → Nat
  | .lit (.string bytes) => bytes.length + 1
  | .lit _ => 1
  | .nil => 1
  | .ptr d => uptoBulk d + 1
  | .slice elems spare => uptoBulkAll elems + uptoBulkAll spare + 1
  | .agg parts => uptoBulkAll parts + 1
  | .iface _ d => uptoBulk d + 1
  | .map entries => uptoBulkEntries entries + 1
  | .held _ => 1
def uptoBulkAll {H : Type} : List (DataW H) → Nat
  | [] => 0
  | d :: r => uptoBulk d + uptoBulkAll r
def uptoBulkEntries {H : Type} : List (Lit × DataW H) → Nat
  | [] => 0
  | x :: r => uptoBulkEntry x + uptoBulkEntries r
def uptoBulkEntry {H : Type} : Lit × DataW H → Nat
  | (.string bytes, d) => bytes.length + uptoBulk d + 1
  | (_, d) => uptoBulk d + 1
 end
def uptoSmall : (H : Type) → List (DataW H) → Bool := fun _ ds => decide (uptoBulkAll ds ≤ 1048576)
def OpenSpec.upto (s : _root_.Go.ChangeSpec) : _root_.Go.OpenSpec := { _root_.Go.OpenSpec.ofChange s with cond := some uptoSmall }

/-- 'ferrylaw03.HostBack', WHERE WHAT IT READS IS OF BULK AT MOST 1048576: true; the input reads as it did. -/
def hostBackUptoRow : OpenClaim := { program := "ytlmmipdgedfboaa", sum := "ade526a5b935e4e142b74c839f68c147c733559c5075d4896ad47ddec0987f61", func := "ferry/ferrylaw03.HostBack", spec := "hostBack", inPlace := ["slices.overlaps[ferry/api.Map]", "slices.overlaps[ferry/api.Cell]"], unfollowed := true, recurses := true, apart := false, narrowed := true }
def HostBackUptoSaid : Prop := hostBackUptoRow.holds Try.pinned (OpenSpec.upto hostBackSpec)

/-- 'ferrylaw03.HostFresh', WHERE WHAT IT READS IS OF BULK AT MOST 1048576: true; the input reads as it did. -/
def hostFreshUptoRow : OpenClaim := { program := "ytlmmipdgedfboaa", sum := "ade526a5b935e4e142b74c839f68c147c733559c5075d4896ad47ddec0987f61", func := "ferry/ferrylaw03.HostFresh", spec := "hostFresh", inPlace := ["slices.overlaps[ferry/api.Map]", "slices.overlaps[ferry/api.Cell]"], unfollowed := true, recurses := true, apart := false, narrowed := true }
def HostFreshUptoSaid : Prop := hostFreshUptoRow.holds Try.pinned (OpenSpec.upto hostFreshSpec)

/-- 'ferrylaw03.HostBytes', WHERE WHAT IT READS IS OF BULK AT MOST 1048576: true; the input reads as it did. -/
def hostBytesUptoRow : OpenClaim := { program := "ytlmmipdgedfboaa", sum := "ade526a5b935e4e142b74c839f68c147c733559c5075d4896ad47ddec0987f61", func := "ferry/ferrylaw03.HostBytes", spec := "hostBytes", inPlace := ["slices.overlaps[ferry/api.Map]", "slices.overlaps[ferry/api.Cell]"], unfollowed := true, recurses := true, apart := false, narrowed := true }
def HostBytesUptoSaid : Prop := hostBytesUptoRow.holds Try.pinned (OpenSpec.upto hostBytesSpec)

/-- 'ferrylaw03.HostParts', WHERE WHAT IT READS IS OF BULK AT MOST 1048576: true; the input reads as it did. -/
def hostPartsUptoRow : OpenClaim := { program := "ytlmmipdgedfboaa", sum := "ade526a5b935e4e142b74c839f68c147c733559c5075d4896ad47ddec0987f61", func := "ferry/ferrylaw03.HostParts", spec := "hostParts", inPlace := ["slices.overlaps[ferry/api.Map]", "slices.overlaps[ferry/api.Cell]"], unfollowed := true, recurses := true, apart := false, narrowed := true }
def HostPartsUptoSaid : Prop := hostPartsUptoRow.holds Try.pinned (OpenSpec.upto hostPartsSpec)

/-- 'ferrylaw03.HostPages', WHERE WHAT IT READS IS OF BULK AT MOST 1048576: true; the input reads as it did. -/
def hostPagesUptoRow : OpenClaim := { program := "ytlmmipdgedfboaa", sum := "ade526a5b935e4e142b74c839f68c147c733559c5075d4896ad47ddec0987f61", func := "ferry/ferrylaw03.HostPages", spec := "hostPages", inPlace := ["slices.overlaps[ferry/api.Map]", "slices.overlaps[ferry/api.Cell]"], unfollowed := true, recurses := true, apart := false, narrowed := true }
def HostPagesUptoSaid : Prop := hostPagesUptoRow.holds Try.pinned (OpenSpec.upto hostPagesSpec)

end Rows
end Go.Proofs.Ytlmmipdgedfboaa
