import Derived.Below
import Derived.Deep.Draws
import Derived.Deep.AppendLies
import Derived.Maps.AppendAt
import Derived.OwnWalk
import Derived.Laws.BytesArg
import Derived.Laws.MakeOwn
import Derived.Laws.OwnMore
import Derived.Deep.OwnRows
import Derived.Tactics
import Derived.Lib.ConvBytes
import Derived.Laws.Slices
import Derived.WalkKit
import Derived.KernelRfl
import Derived.RowKit3
import Derived.Deep.LoopGhost
import Derived.Deep.QuietTactic
import Derived.BigQuiet
import Derived.WideLaws
import Derived.Deep.DeepCutAuto
import Derived.Deep.CutBlock
import Derived.Deep.RegionHeld3
import Derived.Laws.Rows
import Derived.Lib.AppendStr
import Derived.ArgAppend
import Derived.Laws.IdiomCopy
import Derived.RowKit
import Derived.OrdersHeld
import Derived.Laws.BitsLemmas
import Derived.Laws.StructEq
import Derived.ProofKit
import Derived.OwnWalkIn
import Derived.WalkSmall
import Derived.Laws.ResultCell
import Derived.RangeFuncRecord
import Derived.Lib.Hide
import Derived.Deep.RegionWith
import Derived.Maps.OwnOps
import Derived.Shelf.LaysM
import Derived.Shelf.Strings.Replace
import Derived.Lib.LaidTab
import Derived.Shelf.Abstract
import Derived.Shelf.RegionOpen
import Derived.Test.YtjkpgfjnidflhaaDoorZF0
import Derived.Test.YtjkpgfjnidflhaaDoorYA14HDecNamed
import Derived.Test.YtjkpgfjnidflhaaDoorYC20
section
namespace Go.Proofs.YtjkpgfjnidflhaaDoor.F
open Go.RowKit Go.Proofs.YtjkpgfjnidflhaaDoorW.PrintWords Go.Proofs.YtjkpgfjnidflhaaDoorW.PrintLast Go.Proofs.YtjkpgfjnidflhaaDoorW.PrintMore
set_option linter.unusedVariables false
set_option linter.unusedSimpArgs false
def subR (x : S38) : Int := if x.f3.toList = [100, 116] then x.f2 % 64 else x.f2
def saR (x : S38) : Int := if x.f3.toList = [100, 116] then x.f2 / 64 else 0
def rowKind (x : S38) : Bool := if x.f1 = 1 then x.f3.toList == [115, 111] && decide (x.f2 < 32) else if x.f3.toList ∈ [[115, 111], [106], [115, 116, 111], [116, 115, 105], [116, 105], [116, 109]] then x.f2 == 0 else if x.f3.toList = [100, 116] then decide (x.f2 < 2048) else decide (x.f2 < 64)
def rowFits (x : S38) : Bool := decide (ferryref07_special.f x.f0 = some (x.f1, subR x, saR x, x.f3)) && decide (0 ≤ x.f1) && decide (x.f1 < 64) && decide (0 ≤ x.f2) && rowKind x && ((x.f3.toList == [116, 100]) == (x.f0.toList == [114, 100, 104, 119, 114]))
theorem rows_fit : decRows.all rowFits = true := by decide +kernel
theorem row_kind (x : S38) (hx : x ∈ decRows) : ferryref07_special.f x.f0 = some (x.f1, subR x, saR x, x.f3) ∧ 0 ≤ x.f1 ∧ x.f1 < 64 ∧ 0 ≤ x.f2 ∧ rowKind x = true ∧ (x.f3.toList == [116, 100]) = (x.f0.toList == [114, 100, 104, 119, 114]) := by
  have h := List.all_eq_true.1 rows_fit x hx
  unfold rowFits at h
  simp only [Bool.and_eq_true, decide_eq_true_eq] at h
  exact ⟨h.1.1.1.1.1, h.1.1.1.1.2, h.1.1.1.2, h.1.1.2, h.1.2, by simpa using h.2⟩
end Go.Proofs.YtjkpgfjnidflhaaDoor.F
end
