/- The pure statement of the law RelocValues: over numbers and lists alone. -/
import Derived.Test.YtadmaagbnepcfaaFx4
import Derived.Test.YtadmaagbnepcfaaFOpens
namespace Go.Proofs.Ytadmaagbnepcfaa.F
open Go.RowKit Go.Proofs.YtadmaagbnepcfaaW.PrintWords Go.Proofs.YtadmaagbnepcfaaW.PrintLast Go.Proofs.YtadmaagbnepcfaaW.PrintMore
def ferrylaw18_RelocValues.Pure : Prop :=
  ∀ (a0_0 : Int) (a0_1 : Int) (a0_2 : Int) (a1 : Int) (a2 : Int) (a3 : Int), (0 ≤ a0_0 ∧ a0_0 ≤ 4294967295) → ((-9223372036854775808) ≤ a0_1 ∧ a0_1 ≤ 9223372036854775807) → ((-9223372036854775808) ≤ a0_2 ∧ a0_2 ≤ 9223372036854775807) → (0 ≤ a1 ∧ a1 ≤ 4294967295) → (0 ≤ a2 ∧ a2 ≤ 4294967295) → (0 ≤ a3 ∧ a3 ≤ 4294967295) → ferrylaw18_RelocValues.f a0_0 a0_1 a0_2 a1 a2 a3 = some true
end Go.Proofs.Ytadmaagbnepcfaa.F
