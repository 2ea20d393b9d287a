/- The pure statement of the law XlatSigs: over numbers and lists alone. -/
import Derived.Test.YtijghmpapmfndaaDoorFFerrylaw24XlatSigs
import Derived.Test.YtijghmpapmfndaaDoorFOpens
namespace Go.Proofs.YtijghmpapmfndaaDoor.F
open Go.RowKit Go.Proofs.YtijghmpapmfndaaDoorW.PrintWords Go.Proofs.YtijghmpapmfndaaDoorW.PrintLast Go.Proofs.YtijghmpapmfndaaDoorW.PrintMore
def ferrylaw24_XlatSigs.Pure : Prop :=
  ∀ (a0 : Int) (a1 : Int), ((-9223372036854775808) ≤ a0 ∧ a0 ≤ 9223372036854775807) → ((-9223372036854775808) ≤ a1 ∧ a1 ≤ 9223372036854775807) → ∃ k, ferrylaw24_XlatSigs.f k a0 a1 = some true
end Go.Proofs.YtijghmpapmfndaaDoor.F
