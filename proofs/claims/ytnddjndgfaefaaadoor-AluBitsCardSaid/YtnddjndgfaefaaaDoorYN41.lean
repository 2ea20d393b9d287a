import Derived.Below
import Derived.Deep.Draws
import Derived.Deep.AppendLies
import Derived.Maps.AppendAt
import Derived.OwnWalk
import Derived.Laws.BytesArg
import Derived.Laws.MakeOwn
import Derived.Laws.OwnMore
import Derived.Deep.OwnRows
import Derived.Tactics
import Derived.Lib.ConvBytes
import Derived.Laws.Slices
import Derived.WalkKit
import Derived.KernelRfl
import Derived.RowKit3
import Derived.Deep.LoopGhost
import Derived.Deep.QuietTactic
import Derived.BigQuiet
import Derived.WideLaws
import Derived.Deep.DeepCutAuto
import Derived.Deep.CutBlock
import Derived.Deep.RegionHeld3
import Derived.Laws.Rows
import Derived.Lib.AppendStr
import Derived.ArgAppend
import Derived.Laws.IdiomCopy
import Derived.RowKit
import Derived.OrdersHeld
import Derived.Laws.BitsLemmas
import Derived.Laws.StructEq
import Derived.WalkLawsBesides
import Derived.Shelf.Abstract
import Derived.Shelf.RegionOpen
import Derived.RangeFuncRecord
import Derived.OwnWalkIn
import Derived.ProofKit
import Derived.Lib.Hide
import Derived.Shelf.Small.Bits
import Derived.Shelf.LaysM
import Derived.Shelf.Strings.Fields
import Derived.Shelf.Strings.Replace
import Derived.Shelf.Strings.SplitShaped
import Derived.Lib.LaidTab
import Derived.Maps.OwnOps
import Derived.WalkSmall
import Derived.Laws.ResultCell
import Derived.Deep.RegionWith
import Derived.Defers
import Derived.Recover
import Derived.Tactics2
import Derived.OpenShut
import Derived.Deep.Slices
import Derived.SizedLaws
import Derived.Lib.ItoaNum
import Derived.Test.YtnddjndgfaefaaaDoorZF0
import Derived.Test.YtnddjndgfaefaaaDoorYA21
import Derived.Test.YtnddjndgfaefaaaDoorYB22
import Derived.Test.YtnddjndgfaefaaaDoorYD24PAlu1
import Derived.Test.YtnddjndgfaefaaaDoorYF26PAlu0
import Derived.Test.YtnddjndgfaefaaaDoorYJ30
import Derived.Test.YtnddjndgfaefaaaDoorYN39
import Derived.Test.YtnddjndgfaefaaaDoorYN40FFerrylaw09AluBits
section
namespace Go.Proofs.YtnddjndgfaefaaaDoor.F
open Go.RowKit Go.Proofs.YtnddjndgfaefaaaDoorW.PrintWords Go.Proofs.YtnddjndgfaefaaaDoorW.PrintLast Go.Proofs.YtnddjndgfaefaaaDoorW.PrintMore
def ferrylaw09_AluBits.Pure : Prop :=
  ∀ (a0 : Int) (a1 : Int), (0 ≤ a0 ∧ a0 ≤ 4294967295) → (0 ≤ a1 ∧ a1 ≤ 255) → ferrylaw09_AluBits.f a0 a1 = some true
end Go.Proofs.YtnddjndgfaefaaaDoor.F
end
section
namespace Go.Proofs.YtnddjndgfaefaaaDoor.F
set_option linter.unusedVariables false
set_option linter.unusedSimpArgs false
open Go.RowKit Go.Proofs.YtnddjndgfaefaaaDoorW.PrintWords Go.Proofs.YtnddjndgfaefaaaDoorW.PrintLast Go.Proofs.YtnddjndgfaefaaaDoorW.PrintMore
theorem rot_back (v : Int) (n : Nat) (h0 : 0 ≤ v) (h1 : v ≤ 4294967295) (hn : n < 32) : rotOf (rotOf v n) ((32 - n) % 32) = v := by
  unfold rotOf
  rcases cases31 hn with rfl | rfl | rfl | rfl | rfl | rfl | rfl | rfl | rfl | rfl | rfl | rfl | rfl | rfl | rfl | rfl | rfl | rfl | rfl | rfl | rfl | rfl | rfl | rfl | rfl | rfl | rfl | rfl | rfl | rfl | rfl | rfl <;> (simp only [Nat.reduceSub, Nat.reduceMod, Int.reducePow]; omega)
theorem rot_bound (v : Int) (n : Nat) (h0 : 0 ≤ v) (h1 : v ≤ 4294967295) (hn : n < 32) : 0 ≤ rotOf v n ∧ rotOf v n ≤ 4294967295 := by
  unfold rotOf
  rcases cases31 hn with rfl | rfl | rfl | rfl | rfl | rfl | rfl | rfl | rfl | rfl | rfl | rfl | rfl | rfl | rfl | rfl | rfl | rfl | rfl | rfl | rfl | rfl | rfl | rfl | rfl | rfl | rfl | rfl | rfl | rfl | rfl | rfl <;> (simp only [Nat.reduceSub, Int.reducePow]; omega)
theorem AluBits_pure : ferrylaw09_AluBits.Pure := by
  intro s n hs hn
  obtain ⟨k, hk⟩ : ∃ k : Nat, wrap64 (Int.tmod n 32) = (k : Int) ∧ k < 32 := by
    rw [Int.tmod_eq_emod_of_nonneg hn.1]
    exact ⟨(n % 32).toNat, by rw [w64_id (by omega) (by omega)]; omega, by omega⟩
  obtain ⟨hk, hk1⟩ := hk
  have hk2 : Int.tmod (wrap64 (32 - (k : Int))) 32 = (((32 - k) % 32 : Nat) : Int) := by
    rw [w64_id (by omega) (by omega), Int.tmod_eq_emod_of_nonneg (by omega)]
    omega
  have c0 : 0 ≤ s * 2 ^ k % 4294967296 ∧ s * 2 ^ k % 4294967296 ≤ 4294967295 := by omega
  have r0 := rot_bound s k hs.1 hs.2 hk1
  have w0 := sw_range s hs.1 hs.2
  unfold ferrylaw09_AluBits.f
  rw [hk, hk2, bits_not hs.1 hs.2, of_clz s 0 hs.1 hs.2 (by decide) (by decide), Option.bind_some, of_clo (4294967295 - s) 0 (by omega) (by omega) (by decide) (by decide), Option.bind_some, shift_sll s k hk1 hs.1 hs.2, Option.bind_some, shift_srl (s * 2 ^ k % 4294967296) k hk1 c0.1 c0.2, Option.bind_some, of_wsbh 0 s (by decide) (by decide) hs.1 hs.2, Option.bind_some, of_wsbh 0 (swOf s) (by decide) (by decide) w0.1 w0.2, Option.bind_some, shift_rotr s k hk1 hs.1 hs.2, Option.bind_some, shift_rotr (rotOf s k) ((32 - k) % 32) (by omega) r0.1 r0.2, Option.bind_some]
  dsimp only
  rw [if_pos (by rw [show 4294967295 - (4294967295 - s) = s from by omega]), if_pos (by omega), shl32 _ _ (by omega), shr32 _ rfl _ _ (by omega), if_pos rfl, sw_back s hs.1 hs.2, if_pos rfl, rot_back s k hs.1 hs.2 hk1, if_pos rfl, if_pos ?_, alu_awake]
  · rfl
  · have hl := len_facts s.toNat (by omega)
    by_cases h0 : s = 0
    · subst h0
      decide
    · have hb : Lib.bitLen s.toNat ≠ 0 := fun h => h0 (by have := hl.2.2.2.2 h; omega)
      rw [show (s == 0) = false from beq_eq_false_iff_ne.2 h0, show (32 - (Lib.bitLen s.toNat : Int) == 32) = false from beq_eq_false_iff_ne.2 (by omega)]
      rfl
end Go.Proofs.YtnddjndgfaefaaaDoor.F
end
