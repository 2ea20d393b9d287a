import Derived.Test.YtjhfglpgpicmiaaVZF0
import Derived.Test.YtjhfglpgpicmiaaVA9
import Derived.Test.YtjhfglpgpicmiaaVA11
import Derived.Test.YtjhfglpgpicmiaaVA16
import Derived.Test.YtjhfglpgpicmiaaVA35
import Derived.Test.YtjhfglpgpicmiaaVA38HGuestP1
section
namespace Go.Proofs.Ytjhfglpgpicmiaa.F
open Go.RowKit Go.Proofs.YtjhfglpgpicmiaaW.PrintWords Go.Proofs.YtjhfglpgpicmiaaW.PrintLast Go.Proofs.YtjhfglpgpicmiaaW.PrintMore
def ferrylaw04_GuestMaps.Pure : Prop :=
  ∀ (l0_0 : List (S55)) (l0_1 : List (S60)) (a0_2 : Int) (l0_3 : List (S39)) (a1 : Int) (a2 : Int) (a3 : Int), (l0_0.length ≤ 9223372036854775807 ∧ ∀ x_ ∈ l0_0, wfS55 x_) → (l0_1.length ≤ 9223372036854775807 ∧ ∀ x_ ∈ l0_1, wfS60 x_) → (0 ≤ a0_2 ∧ a0_2 ≤ 18446744073709551615) → (l0_3.length ≤ 9223372036854775807 ∧ ∀ x_ ∈ l0_3, wfS39 x_) → (0 ≤ a1 ∧ a1 ≤ 4294967295) → (0 ≤ a2 ∧ a2 ≤ 4294967295) → ((-9223372036854775808) ≤ a3 ∧ a3 ≤ 9223372036854775807) → ferrylaw04_GuestMaps.f l0_0 l0_1 a0_2 l0_3 a1 a2 a3 = some true
end Go.Proofs.Ytjhfglpgpicmiaa.F
end
section
namespace Go.Proofs.Ytjhfglpgpicmiaa.F
open Go.RowKit Go.Shelf Go.Proofs.YtjhfglpgpicmiaaW.PrintWords Go.Proofs.YtjhfglpgpicmiaaW.PrintLast Go.Proofs.YtjhfglpgpicmiaaW.PrintMore
set_option linter.unusedVariables false
theorem GuestMaps_pure : ferrylaw04_GuestMaps.Pure := by
  intro l m b p a n q wl wm hb wp ha hn hq
  unfold ferrylaw04_GuestMaps.f
  rw [if_pos ⟨okH_of wl.2 wm.2, hb, okP_of wp.2, ha, hn, hq⟩]
end Go.Proofs.Ytjhfglpgpicmiaa.F
end
