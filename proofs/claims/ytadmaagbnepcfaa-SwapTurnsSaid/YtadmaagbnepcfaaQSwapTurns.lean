/- The pure statement of the law SwapTurns: over numbers and lists alone. -/
import Derived.Test.YtadmaagbnepcfaaFFerrylaw01SwapTurns
import Derived.Test.YtadmaagbnepcfaaFOpens
namespace Go.Proofs.Ytadmaagbnepcfaa.F
open Go.RowKit Go.Proofs.YtadmaagbnepcfaaW.PrintWords Go.Proofs.YtadmaagbnepcfaaW.PrintLast Go.Proofs.YtadmaagbnepcfaaW.PrintMore
def ferrylaw01_SwapTurns.Pure : Prop :=
  ∀ (a0 : Int) (a1 : Int) (a2 : Int) (a3 : Int), (0 ≤ a0 ∧ a0 ≤ 4294967295) → (0 ≤ a1 ∧ a1 ≤ 255) → (0 ≤ a2 ∧ a2 ≤ 255) → (0 ≤ a3 ∧ a3 ≤ 4294967295) → ferrylaw01_SwapTurns.f a0 a1 a2 a3 = some true
end Go.Proofs.Ytadmaagbnepcfaa.F
