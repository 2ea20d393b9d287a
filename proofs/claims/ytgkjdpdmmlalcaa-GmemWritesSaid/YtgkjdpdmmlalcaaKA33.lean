import Derived.Test.YtgkjdpdmmlalcaaKZF0
import Derived.Test.YtgkjdpdmmlalcaaKA5
import Derived.Test.YtgkjdpdmmlalcaaKA16
import Derived.Test.YtgkjdpdmmlalcaaKA20
import Derived.Test.YtgkjdpdmmlalcaaKA32HGmemP1
section
namespace Go.Proofs.Ytgkjdpdmmlalcaa.F
open Go.RowKit Go.Proofs.YtgkjdpdmmlalcaaW.PrintWords Go.Proofs.YtgkjdpdmmlalcaaW.PrintLast Go.Proofs.YtgkjdpdmmlalcaaW.PrintMore
def ferrylaw05_GmemWrites.Pure : Prop :=
  ∀ (l0_0 : List (S83)) (l0_1 : List (S88)) (a0_2 : Int) (l0_3 : List (S41)) (a1 : Int) (a2 : ByteArray) (a3 : Int) (a4 : Int), (l0_0.length ≤ 9223372036854775807 ∧ ∀ x_ ∈ l0_0, wfS83 x_) → (l0_1.length ≤ 9223372036854775807 ∧ ∀ x_ ∈ l0_1, wfS88 x_) → (0 ≤ a0_2 ∧ a0_2 ≤ 18446744073709551615) → (l0_3.length ≤ 9223372036854775807 ∧ ∀ x_ ∈ l0_3, wfS41 x_) → (0 ≤ a1 ∧ a1 ≤ 4294967295) → (a2.size ≤ 140737488351232) → ((-9223372036854775808) ≤ a3 ∧ a3 ≤ 9223372036854775807) → (0 ≤ a4 ∧ a4 ≤ 18446744073709551615) → ferrylaw05_GmemWrites.f l0_0 l0_1 a0_2 l0_3 a1 a2 a3 a4 = some true
end Go.Proofs.Ytgkjdpdmmlalcaa.F
end
section
namespace Go.Proofs.Ytgkjdpdmmlalcaa.F
open Go.RowKit Go.Shelf Go.Proofs.YtgkjdpdmmlalcaaW.PrintWords Go.Proofs.YtgkjdpdmmlalcaaW.PrintLast Go.Proofs.YtgkjdpdmmlalcaaW.PrintMore
set_option linter.unusedVariables false
theorem GmemWrites_pure : ferrylaw05_GmemWrites.Pure := by
  intro l m b p a s n v wl wm hb wp ha hs hn hv
  unfold ferrylaw05_GmemWrites.f
  rw [if_pos ⟨okH_of wl.2 wm.2, hb, okP5_of wp.2, ha, hn, hv⟩]
end Go.Proofs.Ytgkjdpdmmlalcaa.F
end
