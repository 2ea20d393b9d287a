/- The pure statement of the law SwapTells: over numbers and lists alone. -/
import Derived.Test.YtadmaagbnepcfaaFFerrylaw01SwapTells
import Derived.Test.YtadmaagbnepcfaaFOpens
namespace Go.Proofs.Ytadmaagbnepcfaa.F
open Go.RowKit Go.Proofs.YtadmaagbnepcfaaW.PrintWords Go.Proofs.YtadmaagbnepcfaaW.PrintLast Go.Proofs.YtadmaagbnepcfaaW.PrintMore
def ferrylaw01_SwapTells.Pure : Prop :=
  ∀ (a0 : ByteArray) (a1 : Int) (a2 : Int), (a0.size ≤ 140737488351232) → (0 ≤ a1 ∧ a1 ≤ 18446744073709551615) → ((-9223372036854775808) ≤ a2 ∧ a2 ≤ 9223372036854775807) → ∃ k, ferrylaw01_SwapTells.f k a0 a1 a2 = some true
end Go.Proofs.Ytadmaagbnepcfaa.F
