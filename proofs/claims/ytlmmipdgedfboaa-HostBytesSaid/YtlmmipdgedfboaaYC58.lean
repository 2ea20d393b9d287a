import Derived.Below
import Derived.Deep.Draws
import Derived.Deep.AppendLies
import Derived.Maps.AppendAt
import Derived.OwnWalk
import Derived.Laws.BytesArg
import Derived.Laws.MakeOwn
import Derived.Laws.OwnMore
import Derived.Deep.OwnRows
import Derived.Tactics
import Derived.Lib.ConvBytes
import Derived.Laws.Slices
import Derived.WalkKit
import Derived.KernelRfl
import Derived.RowKit3
import Derived.Deep.LoopGhost
import Derived.Deep.QuietTactic
import Derived.BigQuiet
import Derived.WideLaws
import Derived.Deep.DeepCutAuto
import Derived.Deep.CutBlock
import Derived.Deep.RegionHeld3
import Derived.Laws.Rows
import Derived.Lib.AppendStr
import Derived.ArgAppend
import Derived.Laws.IdiomCopy
import Derived.RowKit
import Derived.OrdersHeld
import Derived.Laws.BitsLemmas
import Derived.Laws.StructEq
import Derived.OwnWalkIn
import Derived.ProofKit
import Derived.Lib.Hide
import Derived.Shelf.RegionOpen
import Derived.Shelf.Abstract
import Derived.Lib.SliceRun
import Derived.WalkSmall
import Derived.Laws.ResultCell
import Derived.Shelf.Spec.SlicesInsertGrow
import Derived.OpenShut
import Derived.Deep.Slices
import Derived.SizedLaws
import Derived.Test.YtlmmipdgedfboaaZF0
import Derived.Test.YtlmmipdgedfboaaYA14
import Derived.Test.YtlmmipdgedfboaaYA16
import Derived.Test.YtlmmipdgedfboaaYA22
import Derived.Test.YtlmmipdgedfboaaYC57HHostP2
section
namespace Go.Proofs.Ytlmmipdgedfboaa.F
open Go.RowKit Go.Proofs.YtlmmipdgedfboaaW.PrintWords Go.Proofs.YtlmmipdgedfboaaW.PrintLast Go.Proofs.YtlmmipdgedfboaaW.PrintMore
def ferrylaw03_HostBytes.Pure : Prop :=
  ∀ (l0_0 : List (S53)) (l0_1 : List (S55)) (a1 : Int) (a2 : Int) (a3 : Int) (a4 : Int), (l0_0.length ≤ 9223372036854775807 ∧ ∀ x_ ∈ l0_0, wfS53 x_) → (l0_1.length ≤ 9223372036854775807 ∧ ∀ x_ ∈ l0_1, wfS55 x_) → (0 ≤ a1 ∧ a1 ≤ 18446744073709551615) → ((-9223372036854775808) ≤ a2 ∧ a2 ≤ 9223372036854775807) → (0 ≤ a3 ∧ a3 ≤ 18446744073709551615) → (0 ≤ a4 ∧ a4 ≤ 18446744073709551615) → ferrylaw03_HostBytes.f l0_0 l0_1 a1 a2 a3 a4 = some true
end Go.Proofs.Ytlmmipdgedfboaa.F
end
section
namespace Go.Proofs.Ytlmmipdgedfboaa.F
theorem HostBytes_pure : ferrylaw03_HostBytes.Pure := by
  intro l0 l1 a1 a2 a3 a4 wl wl1 h1 h2 h3 h4
  unfold ferrylaw03_HostBytes.f
  rw [if_pos ⟨okH_of wl.2 wl1.2, h1, h2, h3, h4⟩]
end Go.Proofs.Ytlmmipdgedfboaa.F
end
