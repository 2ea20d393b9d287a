/- The pure statement of the law XlatFlags: over numbers and lists alone. -/
import Derived.Test.YtijghmpapmfndaaDoorFFerrylaw24XlatFlags
import Derived.Test.YtijghmpapmfndaaDoorFOpens
namespace Go.Proofs.YtijghmpapmfndaaDoor.F
open Go.RowKit Go.Proofs.YtijghmpapmfndaaDoorW.PrintWords Go.Proofs.YtijghmpapmfndaaDoorW.PrintLast Go.Proofs.YtijghmpapmfndaaDoorW.PrintMore
def ferrylaw24_XlatFlags.Pure : Prop :=
  ∀ (a0 : Int) (a1 : Int), (0 ≤ a0 ∧ a0 ≤ 4294967295) → (0 ≤ a1 ∧ a1 ≤ 4294967295) → ∃ k, ferrylaw24_XlatFlags.f k a0 a1 = some true
end Go.Proofs.YtijghmpapmfndaaDoor.F
