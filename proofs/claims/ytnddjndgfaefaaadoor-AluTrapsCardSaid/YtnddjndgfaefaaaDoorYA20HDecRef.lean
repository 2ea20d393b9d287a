import Derived.Below
import Derived.Deep.Draws
import Derived.Deep.AppendLies
import Derived.Maps.AppendAt
import Derived.OwnWalk
import Derived.Laws.BytesArg
import Derived.Laws.MakeOwn
import Derived.Laws.OwnMore
import Derived.Deep.OwnRows
import Derived.Tactics
import Derived.Lib.ConvBytes
import Derived.Laws.Slices
import Derived.WalkKit
import Derived.KernelRfl
import Derived.RowKit3
import Derived.Deep.LoopGhost
import Derived.Deep.QuietTactic
import Derived.BigQuiet
import Derived.WideLaws
import Derived.Deep.DeepCutAuto
import Derived.Deep.CutBlock
import Derived.Deep.RegionHeld3
import Derived.Laws.Rows
import Derived.Lib.AppendStr
import Derived.ArgAppend
import Derived.Laws.IdiomCopy
import Derived.RowKit
import Derived.OrdersHeld
import Derived.Laws.BitsLemmas
import Derived.Laws.StructEq
import Derived.OwnWalkIn
import Derived.WalkSmall
import Derived.Laws.ResultCell
import Derived.RangeFuncRecord
import Derived.ProofKit
import Derived.Lib.Hide
import Derived.Deep.RegionWith
import Derived.Test.YtnddjndgfaefaaaDoorZF0
import Derived.Test.YtnddjndgfaefaaaDoorYA19
section
namespace Go.Proofs.YtnddjndgfaefaaaDoor.F
open Go.RowKit Go.Proofs.YtnddjndgfaefaaaDoorW.PrintWords Go.Proofs.YtnddjndgfaefaaaDoorW.PrintLast Go.Proofs.YtnddjndgfaefaaaDoorW.PrintMore
set_option linter.unusedVariables false
set_option linter.unusedSimpArgs false
def regTable : List (List UInt8 × (Bool × Bool × Bool × Bool) × Int) := [
  ([100, 116, 97], (false, true, true, true), 0),
  ([100, 116, 115], (true, true, true, false), 0),
  ([115], (true, false, false, false), 0),
  ([100, 115], (true, false, true, false), 0),
  ([100, 115, 116], (true, true, true, false), 0),
  ([99], (false, false, false, false), 20),
  ([100], (false, false, true, false), 0),
  ([115, 116], (true, true, false, false), 0),
  ([100, 116, 114], (false, true, true, true), 0),
  ([100, 116, 118], (true, true, true, false), 0),
  ([115, 111], (true, false, false, false), 16),
  ([106], (false, false, false, false), 26),
  ([115, 116, 111], (true, true, false, false), 16),
  ([116, 115, 105], (true, true, false, false), 16),
  ([116, 105], (false, true, false, false), 16),
  ([100, 115, 100], (true, false, true, false), 0),
  ([116, 115, 120], (true, true, true, true), 0),
  ([100, 116], (false, true, true, false), 0),
  ([116, 100], (false, true, true, false), 0),
  ([116, 109], (true, true, false, false), 16),
  ([], (false, false, false, false), 0)]
def regsOf (f : List UInt8) : Option (List UInt8 × (Bool × Bool × Bool × Bool) × Int) := regTable.find? (fun r => r.1 == f)
def fitsOf (n : Int) (h : Bool) : Bool := (ferryref07_fits.f n h).getD false
def fitIf (nm form : List UInt8) (f1 f2 f3 f4 g : Bool) (d a : Int) : Bool :=
  !(form == []) && f1 && f2 && f3 && f4 && !g && !(form == [116, 100] && d != 29) && (nm != [101, 120, 116] || decide (wrap64 (d + a) ≤ 31)) && (nm != [105, 110, 115] || decide (a ≤ d))
end Go.Proofs.YtnddjndgfaefaaaDoor.F
end
