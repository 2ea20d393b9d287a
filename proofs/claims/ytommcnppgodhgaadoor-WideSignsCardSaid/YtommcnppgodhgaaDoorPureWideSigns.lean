/- The pure statement of the law WideSigns, proved. No condition. -/
import Derived.Test.YtommcnppgodhgaaDoorQWideSigns
namespace Go.Proofs.YtommcnppgodhgaaDoor.F
open Go.RowKit Go.Proofs.YtommcnppgodhgaaDoorW.PrintWords Go.Proofs.YtommcnppgodhgaaDoorW.PrintLast Go.Proofs.YtommcnppgodhgaaDoorW.PrintMore
theorem WideSigns_pure : ferrylaw10_WideSigns.Pure := by
  intro a0 a1 a2 a3 h0 h1 h2 h3
  unfold ferrylaw10_WideSigns.f
  exact if_pos ⟨h0.1, h0.2, h1.1, h1.2, h2.1, h2.2, h3.1, h3.2⟩
end Go.Proofs.YtommcnppgodhgaaDoor.F
