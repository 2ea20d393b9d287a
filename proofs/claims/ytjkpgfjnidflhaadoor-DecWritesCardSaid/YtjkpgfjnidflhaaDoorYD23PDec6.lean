import Derived.Below
import Derived.Deep.Draws
import Derived.Deep.AppendLies
import Derived.Maps.AppendAt
import Derived.OwnWalk
import Derived.Laws.BytesArg
import Derived.Laws.MakeOwn
import Derived.Laws.OwnMore
import Derived.Deep.OwnRows
import Derived.Tactics
import Derived.Lib.ConvBytes
import Derived.Laws.Slices
import Derived.WalkKit
import Derived.KernelRfl
import Derived.RowKit3
import Derived.Deep.LoopGhost
import Derived.Deep.QuietTactic
import Derived.BigQuiet
import Derived.WideLaws
import Derived.Deep.DeepCutAuto
import Derived.Deep.CutBlock
import Derived.Deep.RegionHeld3
import Derived.Laws.Rows
import Derived.Lib.AppendStr
import Derived.ArgAppend
import Derived.Laws.IdiomCopy
import Derived.RowKit
import Derived.OrdersHeld
import Derived.Laws.BitsLemmas
import Derived.Laws.StructEq
import Derived.ProofKit
import Derived.OwnWalkIn
import Derived.WalkSmall
import Derived.Laws.ResultCell
import Derived.RangeFuncRecord
import Derived.Lib.Hide
import Derived.Deep.RegionWith
import Derived.Maps.OwnOps
import Derived.Shelf.LaysM
import Derived.Shelf.Strings.Replace
import Derived.Lib.LaidTab
import Derived.Shelf.Abstract
import Derived.Shelf.RegionOpen
import Derived.Test.YtjkpgfjnidflhaaDoorZF0
import Derived.Test.YtjkpgfjnidflhaaDoorYA14HDecNamed
section
namespace Go.Proofs.YtjkpgfjnidflhaaDoor.F
open Go.RowKit Go.Proofs.YtjkpgfjnidflhaaDoorW.PrintWords Go.Proofs.YtjkpgfjnidflhaaDoorW.PrintLast Go.Proofs.YtjkpgfjnidflhaaDoorW.PrintMore
set_option linter.unusedVariables false
set_option linter.unusedSimpArgs false
open Classical in
theorem named_each : ∀ x ∈ decRows, (foundOf (named_p x.f0) z38 decRows).2 = true ∧ (foundOf (named_p x.f0) z38 decRows).1.f0.toList = x.f0.toList ∧ (foundOf (named_p x.f0) z38 decRows).1.f1 = x.f1 ∧ (foundOf (named_p x.f0) z38 decRows).1.f2 = x.f2 ∧ (foundOf (named_p x.f0) z38 decRows).1.f3.toList = x.f3.toList := by decide +kernel
theorem named_row (x : S38) (hx : x ∈ decRows) : foundOf (named_p x.f0) z38 decRows = (x, true) := by
  obtain ⟨h1, h2, h3, h4, h5⟩ := named_each x hx
  refine Prod.ext ?_ h1
  generalize (foundOf (named_p x.f0) z38 decRows).1 = y at h2 h3 h4 h5 ⊢
  obtain ⟨a, b, c, d⟩ := x
  obtain ⟨a', b', c', d'⟩ := y
  dsimp only at *
  have e1 : a' = a := WideShapes.bytes_inj (by rw [← ByteArray.toList_eq, ← ByteArray.toList_eq, h2])
  have e2 : d' = d := WideShapes.bytes_inj (by rw [← ByteArray.toList_eq, ← ByteArray.toList_eq, h5])
  rw [e1, e2, h3, h4]
end Go.Proofs.YtjkpgfjnidflhaaDoor.F
end
