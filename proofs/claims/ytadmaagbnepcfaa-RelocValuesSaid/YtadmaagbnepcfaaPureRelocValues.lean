/- The pure statement of the law RelocValues, proved. No condition. -/
import Derived.Test.YtadmaagbnepcfaaQRelocValues
namespace Go.Proofs.Ytadmaagbnepcfaa.F
open Go.RowKit Go.Proofs.YtadmaagbnepcfaaW.PrintWords Go.Proofs.YtadmaagbnepcfaaW.PrintLast Go.Proofs.YtadmaagbnepcfaaW.PrintMore
theorem RelocValues_pure : ferrylaw18_RelocValues.Pure := by
  intro a0_0 a0_1 a0_2 a1 a2 a3 _ _ _ _ _ _
  have haw : ferrylaw18_awake.f = some true := by decide +kernel
  have he : ferryref18_Value.f a0_0 a0_1 a0_2 a1 a2 a3 = reloc_Value.f a0_0 a0_1 a0_2 a1 a2 a3 := rfl
  obtain ⟨r, hr⟩ : ∃ r, reloc_Value.f a0_0 a0_1 a0_2 a1 a2 a3 = some r := by
    unfold reloc_Value.f
    split
    · exact ⟨_, rfl⟩
    · split
      · split <;> exact ⟨_, rfl⟩
      · exact ⟨_, rfl⟩
  unfold ferrylaw18_RelocValues.f
  rw [he, hr, haw]
  simp
end Go.Proofs.Ytadmaagbnepcfaa.F
