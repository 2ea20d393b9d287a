import Derived.Below
import Derived.Deep.Draws
import Derived.Deep.AppendLies
import Derived.Maps.AppendAt
import Derived.OwnWalk
import Derived.Laws.BytesArg
import Derived.Laws.MakeOwn
import Derived.Laws.OwnMore
import Derived.Deep.OwnRows
import Derived.Tactics
import Derived.Lib.ConvBytes
import Derived.Laws.Slices
import Derived.WalkKit
import Derived.KernelRfl
import Derived.RowKit3
import Derived.Deep.LoopGhost
import Derived.Deep.QuietTactic
import Derived.BigQuiet
import Derived.WideLaws
import Derived.Deep.DeepCutAuto
import Derived.Deep.CutBlock
import Derived.Deep.RegionHeld3
import Derived.Laws.Rows
import Derived.Lib.AppendStr
import Derived.ArgAppend
import Derived.Laws.IdiomCopy
import Derived.RowKit
import Derived.OrdersHeld
import Derived.Laws.BitsLemmas
import Derived.Laws.StructEq
import Derived.WalkLawsBesides
import Derived.Shelf.Abstract
import Derived.Shelf.RegionOpen
import Derived.RangeFuncRecord
import Derived.OwnWalkIn
import Derived.ProofKit
import Derived.Lib.Hide
import Derived.Shelf.Small.Bits
import Derived.Shelf.LaysM
import Derived.Shelf.Strings.Fields
import Derived.Shelf.Strings.Replace
import Derived.Shelf.Strings.SplitShaped
import Derived.Lib.LaidTab
import Derived.Maps.OwnOps
import Derived.WalkSmall
import Derived.Laws.ResultCell
import Derived.Deep.RegionWith
import Derived.Lib.ItoaNum
import Derived.Defers
import Derived.Recover
import Derived.Tactics2
import Derived.Test.YtnddjndgfaefaaaDoorZF0
import Derived.Test.YtnddjndgfaefaaaDoorYA4
import Derived.Test.YtnddjndgfaefaaaDoorYA7FAluBoth
import Derived.Test.YtnddjndgfaefaaaDoorYA14FDecEncode
import Derived.Test.YtnddjndgfaefaaaDoorYA15FDecForm
import Derived.Test.YtnddjndgfaefaaaDoorYA16HAluDo
import Derived.Test.YtnddjndgfaefaaaDoorYA21
import Derived.Test.YtnddjndgfaefaaaDoorYB22
import Derived.Test.YtnddjndgfaefaaaDoorYF26PAlu0
section
namespace Go.Proofs.YtnddjndgfaefaaaDoor.F
open Go.RowKit Go.Proofs.YtnddjndgfaefaaaDoorW.PrintWords Go.Proofs.YtnddjndgfaefaaaDoorW.PrintLast Go.Proofs.YtnddjndgfaefaaaDoorW.PrintMore
theorem mask32 {x : Int} (i : Nat) (hi : i ≤ 32) (h0 : 0 ≤ x) (h1 : x ≤ 4294967295) : Go.bits .and .u32 x (2 ^ i - 1) = x % 2 ^ i := bits_mask .u32 32 (by decide) u32_keep i hi x h0 (by omega)
end Go.Proofs.YtnddjndgfaefaaaDoor.F
end
section
namespace Go.Proofs.YtnddjndgfaefaaaDoor.F
set_option linter.unusedVariables false
open Go.RowKit Go.Proofs.YtnddjndgfaefaaaDoorW.PrintWords Go.Proofs.YtnddjndgfaefaaaDoorW.PrintLast Go.Proofs.YtnddjndgfaefaaaDoorW.PrintMore
theorem cases32 {b : Nat} (h0 : 1 ≤ b) (h1 : b ≤ 32) : b = 1 ∨ b = 2 ∨ b = 3 ∨ b = 4 ∨ b = 5 ∨ b = 6 ∨ b = 7 ∨ b = 8 ∨ b = 9 ∨ b = 10 ∨ b = 11 ∨ b = 12 ∨ b = 13 ∨ b = 14 ∨ b = 15 ∨ b = 16 ∨ b = 17 ∨ b = 18 ∨ b = 19 ∨ b = 20 ∨ b = 21 ∨ b = 22 ∨ b = 23 ∨ b = 24 ∨ b = 25 ∨ b = 26 ∨ b = 27 ∨ b = 28 ∨ b = 29 ∨ b = 30 ∨ b = 31 ∨ b = 32 := by omega
end Go.Proofs.YtnddjndgfaefaaaDoor.F
end
section
namespace Go.Proofs.YtnddjndgfaefaaaDoor.F
set_option linter.unusedVariables false
open Go.RowKit Go.Proofs.YtnddjndgfaefaaaDoorW.PrintWords Go.Proofs.YtnddjndgfaefaaaDoorW.PrintLast Go.Proofs.YtnddjndgfaefaaaDoorW.PrintMore
theorem ones_of (n : Nat) (h1 : n ≤ 32) : onesOf (n : Int) = some (2 ^ n - 1) := by
  unfold onesOf
  have e : wrap64 (32 - (n : Int)) = ((32 - n : Nat) : Int) := by rw [w64_id (by omega) (by omega)]; omega
  rw [e, if_pos (by omega), shr32 _ rfl _ _ (by omega)]
  have hc : n = 0 ∨ 1 ≤ n := by omega
  rcases hc with rfl | hc
  · rfl
  · rcases cases32 hc h1 with rfl | rfl | rfl | rfl | rfl | rfl | rfl | rfl | rfl | rfl | rfl | rfl | rfl | rfl | rfl | rfl | rfl | rfl | rfl | rfl | rfl | rfl | rfl | rfl | rfl | rfl | rfl | rfl | rfl | rfl | rfl | rfl <;> rfl
end Go.Proofs.YtnddjndgfaefaaaDoor.F
end
section
namespace Go.Proofs.YtnddjndgfaefaaaDoor.F
set_option linter.unusedVariables false
open Go.RowKit Go.Proofs.YtnddjndgfaefaaaDoorW.PrintWords Go.Proofs.YtnddjndgfaefaaaDoorW.PrintLast Go.Proofs.YtnddjndgfaefaaaDoorW.PrintMore
theorem and_one {x : Int} (h0 : 0 ≤ x) (h1 : x ≤ 4294967295) : Go.bits .and .u32 x 1 = x % 2 := by
  have := mask32 1 (by decide) h0 h1
  simpa using this
theorem div_le {x : Int} (h0 : 0 ≤ x) (h1 : x ≤ 4294967295) (j : Nat) : 0 ≤ x / 2 ^ j ∧ x / 2 ^ j ≤ 4294967295 := by
  have hp : (0 : Int) < 2 ^ j := Int.pow_pos (by decide)
  exact ⟨Int.ediv_nonneg h0 (Int.le_of_lt hp), Int.le_trans (Int.ediv_le_self _ h0) h1⟩
end Go.Proofs.YtnddjndgfaefaaaDoor.F
end
section
namespace Go.Proofs.YtnddjndgfaefaaaDoor.F
open Go.RowKit
set_option linter.unusedVariables false
set_option linter.unusedSimpArgs false
theorem or_digit (k a b c e : Nat) (hb : b < 2 ^ k) (he : e < 2 ^ k) : (2 ^ k * a + b) ||| (2 ^ k * c + e) = 2 ^ k * (a ||| c) + (b ||| e) := by
  have hbe : b ||| e < 2 ^ k := Nat.or_lt_two_pow hb he
  apply Nat.eq_of_testBit_eq
  intro j
  rw [Nat.testBit_or, Nat.testBit_two_pow_mul_add a hb, Nat.testBit_two_pow_mul_add c he, Nat.testBit_two_pow_mul_add (a ||| c) hbe]
  split <;> rw [Nat.testBit_or]
end Go.Proofs.YtnddjndgfaefaaaDoor.F
end
section
namespace Go.Proofs.YtnddjndgfaefaaaDoor.F
set_option linter.unusedVariables false
set_option linter.unusedSimpArgs false
open Go.RowKit Go.Proofs.YtnddjndgfaefaaaDoorW.PrintWords Go.Proofs.YtnddjndgfaefaaaDoorW.PrintLast Go.Proofs.YtnddjndgfaefaaaDoorW.PrintMore
attribute [local irreducible] dec_Encode.f dec_Form.f ferryref07_Encode.f
theorem aform_ext : dec_Form.f ⟨#[101, 120, 116]⟩ = some ⟨#[116, 115, 120]⟩ := by decide +kernel
theorem aform_ins : dec_Form.f ⟨#[105, 110, 115]⟩ = some ⟨#[116, 115, 120]⟩ := by decide +kernel
theorem l_ext : (⟨#[101, 120, 116]⟩ : ByteArray).toList = [101, 120, 116] := lb _
theorem l_ins : (⟨#[105, 110, 115]⟩ : ByteArray).toList = [105, 110, 115] := lb _
theorem l_tsx : (⟨#[116, 115, 120]⟩ : ByteArray).toList = [116, 115, 120] := lb _
set_option maxHeartbeats 2000000 in
theorem aval_ext (x1 x2 d a i s t v : Int) (s0 : 0 ≤ s) (s1 : s ≤ 4294967295) (t0 : 0 ≤ t) (t1 : t ≤ 4294967295) (i0 : 0 ≤ i) (i1 : i ≤ 4294967295) (d0 : 0 ≤ d) (d1 : d < 32) (a0 : 0 ≤ a) (a1 : a < 32) (he : dec_Encode.f ⟨#[101, 120, 116]⟩ x1 x2 d a i = some (v, true)) :
    alu_Do.f ⟨#[101, 120, 116]⟩ x1 x2 d a i s t = some (Go.bits .and .u32 (s / 2 ^ a.toNat) (2 ^ (d + 1).toNat - 1), true) := by
  unfold alu_Do.f
  rw [he, Option.bind_some]
  dsimp only
  rw [if_pos rfl, if_pos (show (⟨#[101, 120, 116]⟩ : ByteArray).toList ∈ aluNames from by rw [l_ext]; decide), aform_ext, Option.bind_some]
  rw [l_tsx, if_neg (by decide), if_neg (by decide), if_neg (by decide), if_neg (by decide), if_neg (by decide), if_neg (by decide)]
  rw [l_ext, if_neg (fun h => absurd h.1 (by decide)), if_neg (fun h => absurd h.1 (by decide))]
  have hbo : alu_both.f ⟨#[101, 120, 116]⟩ x1 x2 d a i s t = some (Go.bits .and .u32 (s / 2 ^ a.toNat) (2 ^ (d + 1).toNat - 1)) := by
    unfold alu_both.f
    rw [l_ext, if_neg (by decide), if_neg (by decide), if_neg (by decide), if_neg (by decide), if_neg (by decide), if_neg (by decide), if_neg (by decide), if_neg (by decide), if_neg (by decide), if_neg (by decide)]
    unfold alu_fields.f
    rw [l_ext, if_pos rfl]
    have e : wrap64 (d + 1) = ((d + 1).toNat : Int) := by rw [w64_id (by omega) (by omega)]; omega
    rw [if_pos a0, e, ones_of _ (by omega), Option.bind_some, Option.bind_some, show a = ((a.toNat : Nat) : Int) from by omega, shr32 _ rfl _ _ (by omega), Int.toNat_natCast]
  rw [hbo]
  rfl
set_option maxHeartbeats 2000000 in
theorem aval_ins (x1 x2 d a i s t v : Int) (s0 : 0 ≤ s) (s1 : s ≤ 4294967295) (t0 : 0 ≤ t) (t1 : t ≤ 4294967295) (i0 : 0 ≤ i) (i1 : i ≤ 4294967295) (d0 : 0 ≤ d) (d1 : d < 32) (a0 : 0 ≤ a) (a1 : a < 32) (hda : a ≤ d) (he : dec_Encode.f ⟨#[105, 110, 115]⟩ x1 x2 d a i = some (v, true)) :
    alu_Do.f ⟨#[105, 110, 115]⟩ x1 x2 d a i s t = some (Go.bits .or .u32 (Go.bits .andNot .u32 t ((2 ^ (d + 1 - a).toNat - 1) * 2 ^ a.toNat % 4294967296)) (Go.bits .and .u32 (s * 2 ^ a.toNat % 4294967296) ((2 ^ (d + 1 - a).toNat - 1) * 2 ^ a.toNat % 4294967296)), true) := by
  unfold alu_Do.f
  rw [he, Option.bind_some]
  dsimp only
  rw [if_pos rfl, if_pos (show (⟨#[105, 110, 115]⟩ : ByteArray).toList ∈ aluNames from by rw [l_ins]; decide), aform_ins, Option.bind_some]
  rw [l_tsx, if_neg (by decide), if_neg (by decide), if_neg (by decide), if_neg (by decide), if_neg (by decide), if_neg (by decide)]
  rw [l_ins, if_neg (fun h => absurd h.1 (by decide)), if_neg (fun h => absurd h.1 (by decide))]
  have hbo : alu_both.f ⟨#[105, 110, 115]⟩ x1 x2 d a i s t = some (Go.bits .or .u32 (Go.bits .andNot .u32 t ((2 ^ (d + 1 - a).toNat - 1) * 2 ^ a.toNat % 4294967296)) (Go.bits .and .u32 (s * 2 ^ a.toNat % 4294967296) ((2 ^ (d + 1 - a).toNat - 1) * 2 ^ a.toNat % 4294967296))) := by
    unfold alu_both.f
    rw [l_ins, if_neg (by decide), if_neg (by decide), if_neg (by decide), if_neg (by decide), if_neg (by decide), if_neg (by decide), if_neg (by decide), if_neg (by decide), if_neg (by decide), if_neg (by decide)]
    unfold alu_fields.f
    rw [l_ins, if_neg (by decide), if_pos rfl]
    have e : wrap64 (wrap64 (d + 1) - a) = ((d + 1 - a).toNat : Int) := by rw [w64_id (n := d + 1) (by omega) (by omega), w64_id (by omega) (by omega)]; omega
    have ea : a = ((a.toNat : Nat) : Int) := by omega
    rw [if_pos a0, e, ones_of _ (by omega), Option.bind_some, Option.bind_some]
    generalize (2 : Int) ^ (d + 1 - a).toNat - 1 = m
    rw [ea, shl32 _ _ (by omega), shl32 _ _ (by omega), Int.toNat_natCast]
  rw [hbo]
  rfl
end Go.Proofs.YtnddjndgfaefaaaDoor.F
end
