/- The pure statement of the law WideSigns: over numbers and lists alone. -/
import Derived.Test.YtommcnppgodhgaaDoorHWideSigns
import Derived.Test.YtommcnppgodhgaaDoorFOpens
namespace Go.Proofs.YtommcnppgodhgaaDoor.F
open Go.RowKit Go.Proofs.YtommcnppgodhgaaDoorW.PrintWords Go.Proofs.YtommcnppgodhgaaDoorW.PrintLast Go.Proofs.YtommcnppgodhgaaDoorW.PrintMore
def ferrylaw10_WideSigns.Pure : Prop :=
  ∀ (a0 : Int) (a1 : Int) (a2 : Int) (a3 : Int), (0 ≤ a0 ∧ a0 ≤ 4294967295) → (0 ≤ a1 ∧ a1 ≤ 4294967295) → (0 ≤ a2 ∧ a2 ≤ 4294967295) → (0 ≤ a3 ∧ a3 ≤ 4294967295) → ferrylaw10_WideSigns.f a0 a1 a2 a3 = some true
end Go.Proofs.YtommcnppgodhgaaDoor.F
