import Derived.Test.YtgkjdpdmmlalcaaKZF0
import Derived.Test.YtgkjdpdmmlalcaaKA5
import Derived.Test.YtgkjdpdmmlalcaaKA16
import Derived.Test.YtgkjdpdmmlalcaaKA18
import Derived.Test.YtgkjdpdmmlalcaaKA20
import Derived.Test.YtgkjdpdmmlalcaaKA22
import Derived.Test.YtgkjdpdmmlalcaaKA26FFerrylaw05Awake
section
namespace Go.Proofs.Ytgkjdpdmmlalcaa.F
open Go.RowKit Go.Shelf Go.Proofs.YtgkjdpdmmlalcaaW.PrintWords Go.Proofs.YtgkjdpdmmlalcaaW.PrintLast Go.Proofs.YtgkjdpdmmlalcaaW.PrintMore
set_option linter.unusedVariables false
set_option linter.unusedSimpArgs false
theorem few05 {l : List SM} {m : List SC} {b : Int} {p : List SP} (wl : ∀ x ∈ l, wfM x) (wm : ∀ x ∈ m, wfC x) (b0 : 0 ≤ b) (b1 : b ≤ 18446744073709551615) (wp : ∀ x ∈ p, wfP x) (k : Nat) (hk : 1000 < k) :
    ∃ v, ferrylaw05_few.f k l m b p = some v ∧ (v = true → FitG l m b p ∧ l.length ≤ 70 ∧ m.length ≤ 100 ∧ p.length ≤ 60) := by
  unfold ferrylaw05_few.f
  by_cases h1 : (l.length : Int) ≤ 70
  · rw [if_pos h1]
    by_cases h2 : (m.length : Int) ≤ 100
    · rw [if_pos h2]
      by_cases h3 : (p.length : Int) ≤ 60
      · rw [if_pos h3, ref04_Fit wl wm b0 b1 wp (by omega) (by omega) k (by omega)]
        exact ⟨_, rfl, fun h => ⟨(gfitB_iff wl wm b0 b1 wp).1 h, by omega, by omega, by omega⟩⟩
      rw [if_neg h3]
      exact ⟨_, rfl, fun h => by cases h⟩
    rw [if_neg h2]
    exact ⟨_, rfl, fun h => by cases h⟩
  rw [if_neg h1]
  exact ⟨_, rfl, fun h => by cases h⟩
theorem awake05_60 : ferrylaw05_awake.f 60 = some true := by decide +kernel
end Go.Proofs.Ytgkjdpdmmlalcaa.F
end
