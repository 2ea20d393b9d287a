/- The pure statement of the law WideDoes: over numbers and lists alone. -/
import Derived.Test.YtommcnppgodhgaaDoorFFerrylaw10WideDoes
import Derived.Test.YtommcnppgodhgaaDoorFOpens
namespace Go.Proofs.YtommcnppgodhgaaDoor.F
open Go.RowKit Go.Proofs.YtommcnppgodhgaaDoorW.PrintWords Go.Proofs.YtommcnppgodhgaaDoorW.PrintLast Go.Proofs.YtommcnppgodhgaaDoorW.PrintMore
def ferrylaw10_WideDoes.Pure : Prop :=
  ∀ (a0 : ByteArray) (a1 : Int) (a2 : Int) (a3 : Int) (a4 : Int), (a0.size ≤ 140737488351232) → (0 ≤ a1 ∧ a1 ≤ 4294967295) → (0 ≤ a2 ∧ a2 ≤ 4294967295) → (0 ≤ a3 ∧ a3 ≤ 4294967295) → (0 ≤ a4 ∧ a4 ≤ 4294967295) → ∃ k, ferrylaw10_WideDoes.f k a0 a1 a2 a3 a4 = some true
end Go.Proofs.YtommcnppgodhgaaDoor.F
