/- Functions of this seat's program, each as a plain Lean function, and what a call of each comes to. No condition. -/
import Derived.Test.YtadmaagbnepcfaaProg
import Derived.Below
import Derived.Deep.Draws
import Derived.Deep.AppendLies
import Derived.Maps.AppendAt
import Derived.OwnWalk
import Derived.Laws.BytesArg
import Derived.Laws.MakeOwn
import Derived.Laws.OwnMore
import Derived.Deep.OwnRows
import Derived.Tactics
import Derived.Lib.ConvBytes
import Derived.Laws.Slices
import Derived.WalkKit
import Derived.KernelRfl
import Derived.RowKit3
import Derived.Deep.LoopGhost
import Derived.Deep.QuietTactic
import Derived.BigQuiet
import Derived.WideLaws
import Derived.Deep.DeepCutAuto
import Derived.Deep.CutBlock
import Derived.Deep.RegionHeld3
import Derived.Laws.Rows
import Derived.Lib.AppendStr
import Derived.ArgAppend
import Derived.Laws.IdiomCopy
import Derived.OrdersHeld
import Derived.Laws.BitsLemmas
import Derived.RowKit
import Derived.Test.YtadmaagbnepcfaaWWords
import Derived.Test.YtadmaagbnepcfaaWLast
import Derived.Test.YtadmaagbnepcfaaWTab
import Derived.Test.YtadmaagbnepcfaaWFour
import Derived.Test.YtadmaagbnepcfaaWQPut
import Derived.Test.YtadmaagbnepcfaaWApart
import Derived.Test.YtadmaagbnepcfaaWArr
import Derived.Test.YtadmaagbnepcfaaWZeros
import Derived.Test.YtadmaagbnepcfaaWFoot
import Derived.Test.YtadmaagbnepcfaaWKept
import Derived.Test.YtadmaagbnepcfaaWShare
import Derived.Test.YtadmaagbnepcfaaWN
import Derived.Test.YtadmaagbnepcfaaWFootNe
import Derived.Test.YtadmaagbnepcfaaWAt
import Derived.Test.YtadmaagbnepcfaaWEqStruct
import Derived.Test.YtadmaagbnepcfaaWRepsOne
import Derived.Test.YtadmaagbnepcfaaWInv
import Derived.Test.YtadmaagbnepcfaaWInvWords
import Derived.Test.YtadmaagbnepcfaaWGuard
import Derived.Test.YtadmaagbnepcfaaWNEv
import Derived.Test.YtadmaagbnepcfaaWMore
namespace Go.Proofs.Ytadmaagbnepcfaa.F
open Go.RowKit Go.Proofs.YtadmaagbnepcfaaW.PrintWords Go.Proofs.YtadmaagbnepcfaaW.PrintLast Go.Proofs.YtadmaagbnepcfaaW.PrintMore
attribute [local go_sem] max2_int min2_int max_two min_two max_three min_three max_four min_four   -- for this text's walks alone
set_option linter.unusedVariables false
set_option linter.unusedSimpArgs false



def errW : Option Int → Value
  | none => .nilIface
  | some c => .iface 0 (.int .i64 c)
theorem errW_none : errW none = .nilIface := rfl
theorem errW_some (c : Int) : errW (some c) = .iface 0 (.int .i64 c) := rfl

theorem info5 : (Try.prog.info? 5).map (fun i => (i.zero, i.size, i.bytes)) = some (some (.int .u8 0), 1, 1) := by kernel_rfl
-- the values' own types

end Go.Proofs.Ytadmaagbnepcfaa.F
