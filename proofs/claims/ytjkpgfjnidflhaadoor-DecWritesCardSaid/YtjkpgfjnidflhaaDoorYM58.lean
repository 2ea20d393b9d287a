import Derived.Below
import Derived.Deep.Draws
import Derived.Deep.AppendLies
import Derived.Maps.AppendAt
import Derived.OwnWalk
import Derived.Laws.BytesArg
import Derived.Laws.MakeOwn
import Derived.Laws.OwnMore
import Derived.Deep.OwnRows
import Derived.Tactics
import Derived.Lib.ConvBytes
import Derived.Laws.Slices
import Derived.WalkKit
import Derived.KernelRfl
import Derived.RowKit3
import Derived.Deep.LoopGhost
import Derived.Deep.QuietTactic
import Derived.BigQuiet
import Derived.WideLaws
import Derived.Deep.DeepCutAuto
import Derived.Deep.CutBlock
import Derived.Deep.RegionHeld3
import Derived.Laws.Rows
import Derived.Lib.AppendStr
import Derived.ArgAppend
import Derived.Laws.IdiomCopy
import Derived.RowKit
import Derived.OrdersHeld
import Derived.Laws.BitsLemmas
import Derived.Laws.StructEq
import Derived.ProofKit
import Derived.OwnWalkIn
import Derived.WalkSmall
import Derived.Laws.ResultCell
import Derived.RangeFuncRecord
import Derived.Lib.Hide
import Derived.Deep.RegionWith
import Derived.Maps.OwnOps
import Derived.Shelf.LaysM
import Derived.Shelf.Strings.Replace
import Derived.Lib.LaidTab
import Derived.Shelf.Abstract
import Derived.Shelf.RegionOpen
import Derived.OpenShut
import Derived.Deep.Slices
import Derived.SizedLaws
import Derived.Test.YtjkpgfjnidflhaaDoorZF0
import Derived.Test.YtjkpgfjnidflhaaDoorYA15HDecTop
import Derived.Test.YtjkpgfjnidflhaaDoorYA16
import Derived.Test.YtjkpgfjnidflhaaDoorYD23PDec6
import Derived.Test.YtjkpgfjnidflhaaDoorYG27FDecEncode
import Derived.Test.YtjkpgfjnidflhaaDoorYG28PDec6
import Derived.Test.YtjkpgfjnidflhaaDoorYM56
import Derived.Test.YtjkpgfjnidflhaaDoorYM57FFerrylaw07DecWrites
section
namespace Go.Proofs.YtjkpgfjnidflhaaDoor.F
open Go.RowKit Go.Proofs.YtjkpgfjnidflhaaDoorW.PrintWords Go.Proofs.YtjkpgfjnidflhaaDoorW.PrintLast Go.Proofs.YtjkpgfjnidflhaaDoorW.PrintMore
def ferrylaw07_DecWrites.Pure : Prop :=
  ∀ (a0_0 : ByteArray) (a0_1 : Int) (a0_2 : Int) (a0_3 : Int) (a0_4 : Int) (a0_5 : Int), (a0_0.size ≤ 9223372036854775807) → ((-9223372036854775808) ≤ a0_1 ∧ a0_1 ≤ 9223372036854775807) → ((-9223372036854775808) ≤ a0_2 ∧ a0_2 ≤ 9223372036854775807) → ((-9223372036854775808) ≤ a0_3 ∧ a0_3 ≤ 9223372036854775807) → ((-9223372036854775808) ≤ a0_4 ∧ a0_4 ≤ 9223372036854775807) → (0 ≤ a0_5 ∧ a0_5 ≤ 4294967295) → ∃ k, ferrylaw07_DecWrites.f k a0_0 a0_1 a0_2 a0_3 a0_4 a0_5 = some true
end Go.Proofs.YtjkpgfjnidflhaaDoor.F
end
section
namespace Go.Proofs.YtjkpgfjnidflhaaDoor.F
open Go.RowKit Go.Proofs.YtjkpgfjnidflhaaDoorW.PrintWords Go.Proofs.YtjkpgfjnidflhaaDoorW.PrintLast Go.Proofs.YtjkpgfjnidflhaaDoorW.PrintMore
theorem writes_awake : ferrylaw07_awake.f = some true := by decide +kernel
theorem encode_some (nm : ByteArray) (s t d a i : Int) : ∃ v, dec_Encode.f nm s t d a i = some v := by
  rcases name_cases nm with ⟨x, hx, rfl⟩ | h
  · exact ⟨_, enc_found x hx ⟨s, t, d, a, i⟩ (named_row x hx)⟩
  · refine ⟨(0, false), ?_⟩
    unfold dec_Encode.f dec_named.f
    rw [named_none nm h, Option.bind_some]
    dsimp only
    rw [if_neg (by decide)]
theorem DecWrites_pure : ferrylaw07_DecWrites.Pure := by
  unfold ferrylaw07_DecWrites.Pure
  intro nm s t d a i
  intros
  refine ⟨1, ?_⟩
  unfold ferrylaw07_DecWrites.f
  have e := enc_eq 0 nm ⟨s, t, d, a, i⟩ (show (0 : Int) ≤ i by omega) (show i ≤ 4294967295 by omega)
  dsimp only at e
  rw [e]
  obtain ⟨v, hv⟩ := encode_some nm s t d a i
  have hf : ∃ u, dec_Form.f nm = some u := ⟨_, rfl⟩
  obtain ⟨u, hu⟩ := hf
  have hu' := (form_eq nm).trans hu
  rw [hv, hu, hu']
  simp only [Option.bind_some, beq_self_eq_true, if_true, writes_awake]
end Go.Proofs.YtjkpgfjnidflhaaDoor.F
end
