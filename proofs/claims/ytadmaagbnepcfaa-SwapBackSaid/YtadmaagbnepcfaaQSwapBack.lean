/- The pure statement of the law SwapBack: over numbers and lists alone. -/
import Derived.Test.YtadmaagbnepcfaaFFerrylaw01SwapBack
import Derived.Test.YtadmaagbnepcfaaFOpens
namespace Go.Proofs.Ytadmaagbnepcfaa.F
open Go.RowKit Go.Proofs.YtadmaagbnepcfaaW.PrintWords Go.Proofs.YtadmaagbnepcfaaW.PrintLast Go.Proofs.YtadmaagbnepcfaaW.PrintMore
def ferrylaw01_SwapBack.Pure : Prop :=
  ∀ (a0 : Int) (a1 : Int), (0 ≤ a0 ∧ a0 ≤ 18446744073709551615) → (0 ≤ a1 ∧ a1 ≤ 255) → ∃ k, ferrylaw01_SwapBack.f k a0 a1 = some true
end Go.Proofs.Ytadmaagbnepcfaa.F
