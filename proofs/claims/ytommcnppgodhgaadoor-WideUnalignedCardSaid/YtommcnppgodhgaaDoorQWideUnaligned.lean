/- The pure statement of the law WideUnaligned: over numbers and lists alone. -/
import Derived.Test.YtommcnppgodhgaaDoorFFerrylaw10WideUnaligned
import Derived.Test.YtommcnppgodhgaaDoorFOpens
namespace Go.Proofs.YtommcnppgodhgaaDoor.F
open Go.RowKit Go.Proofs.YtommcnppgodhgaaDoorW.PrintWords Go.Proofs.YtommcnppgodhgaaDoorW.PrintLast Go.Proofs.YtommcnppgodhgaaDoorW.PrintMore
def ferrylaw10_WideUnaligned.Pure : Prop :=
  ∀ (a0 : Int) (a1 : Int) (a2 : Int) (a3 : Int), (0 ≤ a0 ∧ a0 ≤ 4294967295) → (0 ≤ a1 ∧ a1 ≤ 4294967295) → (0 ≤ a2 ∧ a2 ≤ 4294967295) → (0 ≤ a3 ∧ a3 ≤ 255) → ∃ k, ferrylaw10_WideUnaligned.f k a0 a1 a2 a3 = some true
end Go.Proofs.YtommcnppgodhgaaDoor.F
