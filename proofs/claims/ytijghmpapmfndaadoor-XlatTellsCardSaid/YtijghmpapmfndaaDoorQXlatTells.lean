/- The pure statement of the law XlatTells: over numbers and lists alone. -/
import Derived.Test.YtijghmpapmfndaaDoorFFerrylaw24XlatTells
import Derived.Test.YtijghmpapmfndaaDoorFOpens
namespace Go.Proofs.YtijghmpapmfndaaDoor.F
open Go.RowKit Go.Proofs.YtijghmpapmfndaaDoorW.PrintWords Go.Proofs.YtijghmpapmfndaaDoorW.PrintLast Go.Proofs.YtijghmpapmfndaaDoorW.PrintMore
def ferrylaw24_XlatTells.Pure : Prop :=
  ∀ (a0 : Int) (a1 : Int) (a2 : Int), ((-9223372036854775808) ≤ a0 ∧ a0 ≤ 9223372036854775807) → (0 ≤ a1 ∧ a1 ≤ 4294967295) → (0 ≤ a2 ∧ a2 ≤ 4294967295) → ∃ k, ferrylaw24_XlatTells.f k a0 a1 a2 = some true
end Go.Proofs.YtijghmpapmfndaaDoor.F
