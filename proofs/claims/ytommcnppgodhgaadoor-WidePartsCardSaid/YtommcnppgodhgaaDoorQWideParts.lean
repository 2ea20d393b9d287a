/- The pure statement of the law WideParts: over numbers and lists alone. -/
import Derived.Test.YtommcnppgodhgaaDoorFFerrylaw10WideParts
import Derived.Test.YtommcnppgodhgaaDoorFOpens
namespace Go.Proofs.YtommcnppgodhgaaDoor.F
open Go.RowKit Go.Proofs.YtommcnppgodhgaaDoorW.PrintWords Go.Proofs.YtommcnppgodhgaaDoorW.PrintLast Go.Proofs.YtommcnppgodhgaaDoorW.PrintMore
def ferrylaw10_WideParts.Pure : Prop :=
  ∀ (a0 : Int) (a1 : Int) (a2 : Int), (0 ≤ a0 ∧ a0 ≤ 4294967295) → (0 ≤ a1 ∧ a1 ≤ 4294967295) → ((-9223372036854775808) ≤ a2 ∧ a2 ≤ 9223372036854775807) → ferrylaw10_WideParts.f a0 a1 a2 = some true
end Go.Proofs.YtommcnppgodhgaaDoor.F
