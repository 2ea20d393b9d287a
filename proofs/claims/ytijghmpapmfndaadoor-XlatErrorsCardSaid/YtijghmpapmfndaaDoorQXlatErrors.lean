/- The pure statement of the law XlatErrors: over numbers and lists alone. -/
import Derived.Test.YtijghmpapmfndaaDoorFFerrylaw24XlatErrors
import Derived.Test.YtijghmpapmfndaaDoorFOpens
namespace Go.Proofs.YtijghmpapmfndaaDoor.F
open Go.RowKit Go.Proofs.YtijghmpapmfndaaDoorW.PrintWords Go.Proofs.YtijghmpapmfndaaDoorW.PrintLast Go.Proofs.YtijghmpapmfndaaDoorW.PrintMore
def ferrylaw24_XlatErrors.Pure : Prop :=
  ∀ (a0 : Int) (a1 : Int), ((-9223372036854775808) ≤ a0 ∧ a0 ≤ 9223372036854775807) → (0 ≤ a1 ∧ a1 ≤ 4294967295) → ∃ k, ferrylaw24_XlatErrors.f k a0 a1 = some true
end Go.Proofs.YtijghmpapmfndaaDoor.F
