/- The pure statement of the law SwapBits: over numbers and lists alone. -/
import Derived.Test.YtadmaagbnepcfaaFFerrylaw01SwapBits
import Derived.Test.YtadmaagbnepcfaaFOpens
namespace Go.Proofs.Ytadmaagbnepcfaa.F
open Go.RowKit Go.Proofs.YtadmaagbnepcfaaW.PrintWords Go.Proofs.YtadmaagbnepcfaaW.PrintLast Go.Proofs.YtadmaagbnepcfaaW.PrintMore
def ferrylaw01_SwapBits.Pure : Prop :=
  ∀ (a0 : Int) (a1 : Int) (a2 : Int) (a3 : Int), (0 ≤ a0 ∧ a0 ≤ 4294967295) → ((-9223372036854775808) ≤ a1 ∧ a1 ≤ 9223372036854775807) → ((-9223372036854775808) ≤ a2 ∧ a2 ≤ 9223372036854775807) → (0 ≤ a3 ∧ a3 ≤ 4294967295) → ∃ k, ferrylaw01_SwapBits.f k a0 a1 a2 a3 = some true
end Go.Proofs.Ytadmaagbnepcfaa.F
