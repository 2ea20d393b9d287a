import Derived.Below
import Derived.Deep.Draws
import Derived.Deep.AppendLies
import Derived.Maps.AppendAt
import Derived.OwnWalk
import Derived.Laws.BytesArg
import Derived.Laws.MakeOwn
import Derived.Laws.OwnMore
import Derived.Deep.OwnRows
import Derived.Tactics
import Derived.Lib.ConvBytes
import Derived.Laws.Slices
import Derived.WalkKit
import Derived.KernelRfl
import Derived.RowKit3
import Derived.Deep.LoopGhost
import Derived.Deep.QuietTactic
import Derived.BigQuiet
import Derived.WideLaws
import Derived.Deep.DeepCutAuto
import Derived.Deep.CutBlock
import Derived.Deep.RegionHeld3
import Derived.Laws.Rows
import Derived.Lib.AppendStr
import Derived.ArgAppend
import Derived.Laws.IdiomCopy
import Derived.RowKit
import Derived.OrdersHeld
import Derived.Laws.BitsLemmas
import Derived.Laws.StructEq
import Derived.WalkLawsBesides
import Derived.Shelf.Abstract
import Derived.Shelf.RegionOpen
import Derived.RangeFuncRecord
import Derived.OwnWalkIn
import Derived.ProofKit
import Derived.Lib.Hide
import Derived.Shelf.Small.Bits
import Derived.Shelf.LaysM
import Derived.Shelf.Strings.Fields
import Derived.Shelf.Strings.Replace
import Derived.Shelf.Strings.SplitShaped
import Derived.Lib.LaidTab
import Derived.Maps.OwnOps
import Derived.WalkSmall
import Derived.Laws.ResultCell
import Derived.Deep.RegionWith
import Derived.Lib.ItoaNum
import Derived.Defers
import Derived.Recover
import Derived.Tactics2
import Derived.Test.YtnddjndgfaefaaaDoorZF0
import Derived.Test.YtnddjndgfaefaaaDoorYA0
import Derived.Test.YtnddjndgfaefaaaDoorYA4
import Derived.Test.YtnddjndgfaefaaaDoorYA6
import Derived.Test.YtnddjndgfaefaaaDoorYA7FAluBoth
import Derived.Test.YtnddjndgfaefaaaDoorYA14FDecEncode
import Derived.Test.YtnddjndgfaefaaaDoorYA15FDecForm
import Derived.Test.YtnddjndgfaefaaaDoorYA16HAluDo
import Derived.Test.YtnddjndgfaefaaaDoorYA21
import Derived.Test.YtnddjndgfaefaaaDoorYB22
import Derived.Test.YtnddjndgfaefaaaDoorYD24PAlu1
import Derived.Test.YtnddjndgfaefaaaDoorYF26PAlu0
section
namespace Go.Proofs.YtnddjndgfaefaaaDoor.F
open Go.RowKit Go.Proofs.YtnddjndgfaefaaaDoorW.PrintWords Go.Proofs.YtnddjndgfaefaaaDoorW.PrintLast Go.Proofs.YtnddjndgfaefaaaDoorW.PrintMore
theorem i64_keep (n : Int) (h₀ : 0 ≤ n) (h₁ : n < 2 ^ 63) : IntKind.i64.wrap n = n := by rw [IntKind.wrap_i64]; omega
theorem join32 {x y : Int} (i : Nat) (h0 : 0 ≤ x) (h1 : x ≤ 4294967295) (hx : x % 2 ^ i = 0) (h2 : 0 ≤ y) (h3 : y < 2 ^ i) (h4 : y ≤ 4294967295) : Go.bits .or .u32 x y = x + y := bits_join .u32 32 (by decide) u32_keep i x y h0 hx (by omega) h2 h3 (by omega)
theorem bits_or_comm (k : IntKind) (x y : Int) : Go.bits .or k x y = Go.bits .or k y x := by
  simp only [Go.bits]
  rw [BitVec.or_comm]
theorem and_mask_i64 (n : Int) (i : Nat) (hi : i ≤ 62) : Go.bits .and .i64 n (2 ^ i - 1) = n % 2 ^ i := by
  have hp : (2 : Nat) ^ i ≤ 2 ^ 62 := Nat.pow_le_pow_right (by decide) hi
  have hpos : 0 < (2 : Nat) ^ i := Nat.two_pow_pos i
  have e0 : ((2 : Int) ^ i - 1) = ((2 ^ i - 1 : Nat) : Int) := by
    rw [Int.natCast_sub hpos]
    simp
  rw [e0]
  show IntKind.i64.wrap (((BitVec.ofInt 64 n &&& BitVec.ofInt 64 ((2 ^ i - 1 : Nat) : Int)).toNat : Nat) : Int) = _
  rw [BitVec.toNat_and, BitVec.ofInt_natCast, BitVec.toNat_ofNat, Nat.mod_eq_of_lt (show 2 ^ i - 1 < 2 ^ 64 by omega), Nat.and_two_pow_sub_one_eq_mod, BitVec.toNat_ofInt]
  have hlt : (n % ((2 ^ 64 : Nat) : Int)).toNat % 2 ^ i < 2 ^ i := Nat.mod_lt _ hpos
  rw [i64_keep _ (by omega) (by omega)]
  have hnn : 0 ≤ n % ((2 ^ 64 : Nat) : Int) := Int.emod_nonneg _ (by decide)
  rw [Int.natCast_emod, Int.toNat_of_nonneg hnn]
  have hd : ((2 ^ i : Nat) : Int) ∣ ((2 ^ 64 : Nat) : Int) := Int.natCast_dvd_natCast.mpr (Nat.pow_dvd_pow 2 (by omega))
  rw [Int.emod_emod_of_dvd _ hd]
  simp
end Go.Proofs.YtnddjndgfaefaaaDoor.F
end
section
namespace Go.Proofs.YtnddjndgfaefaaaDoor.F
set_option linter.unusedVariables false
open Go.RowKit Go.Proofs.YtnddjndgfaefaaaDoorW.PrintWords Go.Proofs.YtnddjndgfaefaaaDoorW.PrintLast Go.Proofs.YtnddjndgfaefaaaDoorW.PrintMore
def rotOf (v : Int) (n : Nat) : Int := v / 2 ^ n + v % 2 ^ n * 2 ^ (32 - n)
theorem cases31 {n : Nat} (h1 : n < 32) : n = 0 ∨ n = 1 ∨ n = 2 ∨ n = 3 ∨ n = 4 ∨ n = 5 ∨ n = 6 ∨ n = 7 ∨ n = 8 ∨ n = 9 ∨ n = 10 ∨ n = 11 ∨ n = 12 ∨ n = 13 ∨ n = 14 ∨ n = 15 ∨ n = 16 ∨ n = 17 ∨ n = 18 ∨ n = 19 ∨ n = 20 ∨ n = 21 ∨ n = 22 ∨ n = 23 ∨ n = 24 ∨ n = 25 ∨ n = 26 ∨ n = 27 ∨ n = 28 ∨ n = 29 ∨ n = 30 ∨ n = 31 := by omega
theorem and31 (n : Int) : Go.bits .and .i64 n 31 = n % 32 := and_mask_i64 n 5 (by decide)
theorem rot_arith (v : Int) (n : Nat) (h0 : 0 ≤ v) (h1 : v ≤ 4294967295) (hn : n < 32) : Go.bits .or .u32 (v / 2 ^ n) (v * 2 ^ (32 - n) % 4294967296) = rotOf v n := by
  have e : v * 2 ^ (32 - n) % 4294967296 = v % 2 ^ n * 2 ^ (32 - n) := by
    rcases cases31 hn with rfl | rfl | rfl | rfl | rfl | rfl | rfl | rfl | rfl | rfl | rfl | rfl | rfl | rfl | rfl | rfl | rfl | rfl | rfl | rfl | rfl | rfl | rfl | rfl | rfl | rfl | rfl | rfl | rfl | rfl | rfl | rfl <;> (simp only [Nat.reduceSub, Int.reducePow]; omega)
  have b1 : v / 2 ^ n < 2 ^ (32 - n) ∧ 0 ≤ v / 2 ^ n ∧ v / 2 ^ n ≤ 4294967295 := by
    rcases cases31 hn with rfl | rfl | rfl | rfl | rfl | rfl | rfl | rfl | rfl | rfl | rfl | rfl | rfl | rfl | rfl | rfl | rfl | rfl | rfl | rfl | rfl | rfl | rfl | rfl | rfl | rfl | rfl | rfl | rfl | rfl | rfl | rfl <;> (simp only [Nat.reduceSub, Int.reducePow]; omega)
  have b2 : v % 2 ^ n * 2 ^ (32 - n) % 2 ^ (32 - n) = 0 := Int.mul_emod_left _ _
  have b3 : 0 ≤ v * 2 ^ (32 - n) % 4294967296 ∧ v * 2 ^ (32 - n) % 4294967296 ≤ 4294967295 := by omega
  rw [bits_or_comm, join32 (32 - n) b3.1 b3.2 (by rw [e]; exact b2) b1.2.1 b1.1 b1.2.2, e, Int.add_comm]
  rfl
theorem swap_Rot_spec (v n : Int) (h0 : 0 ≤ v) (h1 : v ≤ 4294967295) : swap_Rot.f v n = some (rotOf v (n % 32).toNat) := by
  unfold swap_Rot.f
  rw [and31]
  obtain ⟨m, hm⟩ : ∃ m : Nat, n % 32 = m := ⟨(n % 32).toNat, by omega⟩
  have hm32 : m < 32 := by omega
  rw [hm, Int.toNat_natCast]
  have e : wrap64 (32 - (m : Int)) = ((32 - m : Nat) : Int) := by rw [w64_id (by omega) (by omega)]; omega
  rw [if_pos (by omega), e, if_pos (by omega), shl32 _ _ (by omega), shr32 _ rfl _ _ (by omega), rot_arith v m h0 h1 hm32]
end Go.Proofs.YtnddjndgfaefaaaDoor.F
end
section
namespace Go.Proofs.YtnddjndgfaefaaaDoor.F
set_option linter.unusedVariables false
open Go.RowKit Go.Proofs.YtnddjndgfaefaaaDoorW.PrintWords Go.Proofs.YtnddjndgfaefaaaDoorW.PrintLast Go.Proofs.YtnddjndgfaefaaaDoorW.PrintMore
theorem len_facts (x : Nat) (hx : x < 4294967296) : Lib.bitLen x ≤ 32 ∧ (∀ j, Lib.bitLen x ≤ j → x / 2 ^ j = 0) ∧ (1 ≤ Lib.bitLen x → x / 2 ^ (Lib.bitLen x - 1) = 1) ∧ (x = 0 ↔ Lib.bitLen x = 0) := by
  have hle := Lib.bitLen_le x 32 (by decide) hx
  by_cases h0 : x = 0
  · subst h0
    have hz : Lib.bitLen 0 = 0 := Lib.bitLenAux_zero 64
    rw [hz]
    exact ⟨by decide, fun j _ => Nat.zero_div _, fun h => absurd h (by decide), by simp⟩
  · obtain ⟨h1, h2, h3⟩ := Lib.bitLenAux_bounds 64 x (Nat.lt_trans hx (by decide)) h0
    change 1 ≤ Lib.bitLen x at h1
    change 2 ^ (Lib.bitLen x - 1) ≤ x at h2
    change x < 2 ^ Lib.bitLen x at h3
    refine ⟨hle, fun j hj => Nat.div_eq_of_lt (Nat.lt_of_lt_of_le h3 (Nat.pow_le_pow_right (by decide) hj)), fun _ => ?_, by constructor <;> intro h <;> omega⟩
    have hp : 0 < 2 ^ (Lib.bitLen x - 1) := Nat.pow_pos (by decide)
    have e : 2 ^ Lib.bitLen x = 2 ^ (Lib.bitLen x - 1) * 2 := by rw [← Nat.pow_succ]; congr 1; omega
    rw [e] at h3
    have l1 : 1 ≤ x / 2 ^ (Lib.bitLen x - 1) := (Nat.le_div_iff_mul_le hp).2 (by omega)
    have l2 : x / 2 ^ (Lib.bitLen x - 1) < 2 := (Nat.div_lt_iff_lt_mul hp).2 (by omega)
    omega
theorem zeros_of (v : Int) (hv : 0 ≤ v) (hv1 : v ≤ 4294967295) : bits_LeadingZeros32.f v = some (32 - (Lib.bitLen v.toNat : Int)) := by
  unfold bits_LeadingZeros32.f
  rw [if_pos ⟨hv, hv1⟩]
def swOf (t : Int) : Int := Go.bits .or .u32 (Go.bits .and .u32 (t / 256) 16711935) ((Go.bits .and .u32 t 16711935 * 256) % 4294967296)
theorem keep_halves (t : Int) (h0 : 0 ≤ t) (h1 : t ≤ 4294967295) : Go.bits .and .u32 t 16711935 = t % 256 + t / 65536 % 256 * 65536 := by
  obtain ⟨x, rfl, hx⟩ := nat_of h0 h1
  rw [show (16711935 : Int) = ((16711935 : Nat) : Int) from rfl, (bits_nat32 x 16711935 hx (by decide)).1]
  have e : x &&& 16711935 = x % 256 + x / 65536 % 256 * 65536 := by
    have hs : (16711935 : Nat) = 2 ^ 16 * 255 + 255 := by decide
    have hx' : x = 2 ^ 16 * (x / 65536) + x % 65536 := by omega
    have key : x &&& 16711935 = 2 ^ 16 * ((x / 65536) &&& 255) + ((x % 65536) &&& 255) := by
      apply Nat.eq_of_testBit_eq
      intro i
      rw [Nat.testBit_and]
      conv => lhs; rw [hx', hs]
      rw [Nat.testBit_two_pow_mul_add _ (by omega : x % 65536 < 2 ^ 16), Nat.testBit_two_pow_mul_add _ (by decide : 255 < 2 ^ 16), Nat.testBit_two_pow_mul_add _ (Nat.lt_of_le_of_lt Nat.and_le_right (by decide) : (x % 65536) &&& 255 < 2 ^ 16)]
      split <;> rw [Nat.testBit_and]
    have m : ∀ y, y &&& 255 = y % 256 := fun y => Nat.and_two_pow_sub_one_eq_mod y 8
    rw [key, m, m]
    omega
  rw [e]
  omega
theorem sw_val (t : Int) (h0 : 0 ≤ t) (h1 : t ≤ 4294967295) : swOf t = t / 256 % 256 + t / 16777216 * 65536 + (t % 256 * 256 + t / 65536 % 256 * 16777216) := by
  unfold swOf
  rw [keep_halves t h0 h1, keep_halves (t / 256) (by omega) (by omega)]
  obtain ⟨x, rfl, hx⟩ := nat_of h0 h1
  have a : ((x : Int) / 256 % 256 + (x : Int) / 256 / 65536 % 256 * 65536) = ((x / 256 % 256 + x / 16777216 * 65536 : Nat) : Int) := by omega
  have b : (((x : Int) % 256 + (x : Int) / 65536 % 256 * 65536) * 256 % 4294967296) = ((x % 256 * 256 + x / 65536 % 256 * 16777216 : Nat) : Int) := by omega
  rw [a, b, (bits_nat32 _ _ (by omega) (by omega)).2.1]
  have hor : (x / 256 % 256 + x / 16777216 * 65536) ||| (x % 256 * 256 + x / 65536 % 256 * 16777216) = x / 256 % 256 + x / 16777216 * 65536 + (x % 256 * 256 + x / 65536 % 256 * 16777216) := by
    have e1 : x / 256 % 256 + x / 16777216 * 65536 = 2 ^ 16 * (x / 16777216) + x / 256 % 256 := by omega
    have e2 : x % 256 * 256 + x / 65536 % 256 * 16777216 = 2 ^ 16 * (2 ^ 8 * (x / 65536 % 256)) + 2 ^ 8 * (x % 256) := by omega
    have o1 : (x / 16777216) ||| (2 ^ 8 * (x / 65536 % 256)) = 2 ^ 8 * (x / 65536 % 256) + x / 16777216 := by
      rw [Nat.or_comm]
      exact (Nat.two_pow_add_eq_or_of_lt (by omega) _).symm
    have o2 : (x / 256 % 256) ||| (2 ^ 8 * (x % 256)) = 2 ^ 8 * (x % 256) + x / 256 % 256 := by
      rw [Nat.or_comm]
      exact (Nat.two_pow_add_eq_or_of_lt (by omega) _).symm
    have key : (2 ^ 16 * (x / 16777216) + x / 256 % 256) ||| (2 ^ 16 * (2 ^ 8 * (x / 65536 % 256)) + 2 ^ 8 * (x % 256)) = 2 ^ 16 * ((x / 16777216) ||| (2 ^ 8 * (x / 65536 % 256))) + ((x / 256 % 256) ||| (2 ^ 8 * (x % 256))) := by
      apply Nat.eq_of_testBit_eq
      intro i
      rw [Nat.testBit_or, Nat.testBit_two_pow_mul_add _ (by omega : x / 256 % 256 < 2 ^ 16), Nat.testBit_two_pow_mul_add _ (by omega : 2 ^ 8 * (x % 256) < 2 ^ 16), Nat.testBit_two_pow_mul_add _ (by rw [o2]; omega : (x / 256 % 256) ||| (2 ^ 8 * (x % 256)) < 2 ^ 16)]
      split <;> rw [Nat.testBit_or]
    rw [e1, e2, key, o1, o2]
    omega
  rw [hor]
  omega
theorem sw_range (t : Int) (h0 : 0 ≤ t) (h1 : t ≤ 4294967295) : 0 ≤ swOf t ∧ swOf t ≤ 4294967295 := by
  rw [sw_val t h0 h1]
  omega
theorem wsbh_of (t : Int) (h0 : 0 ≤ t) (h1 : t ≤ 4294967295) : (bits_ReverseBytes32.f t).bind (fun v => bits_RotateLeft32.f v 16) = some (swOf t) := by
  have r := sw_range t h0 h1
  have e : bits_ReverseBytes32.f t = some (rotOf (swOf t) 16) := by
    unfold bits_ReverseBytes32.f
    change some (Go.bits .or .u32 (swOf t / 65536) (swOf t * 65536 % 4294967296)) = _
    exact congrArg some (rot_arith (swOf t) 16 r.1 r.2 (by decide))
  rw [e, Option.bind_some]
  have r2 : 0 ≤ rotOf (swOf t) 16 ∧ rotOf (swOf t) 16 ≤ 4294967295 := by
    unfold rotOf
    simp only [Nat.reduceSub, Int.reducePow]
    omega
  have b16 : Go.bits .and .u64 (IntKind.u64.wrap 16) 31 = ((16 : Nat) : Int) := by decide
  unfold bits_RotateLeft32.f
  rw [b16, if_pos (by decide), show IntKind.u64.wrap (32 - ((16 : Nat) : Int)) = ((16 : Nat) : Int) from by decide, if_pos (by decide), shl32 _ 16 (by decide), shr32 _ rfl _ 16 (by decide), bits_or_comm]
  have e2 := rot_arith (rotOf (swOf t) 16) 16 r2.1 r2.2 (by decide)
  rw [show 32 - 16 = 16 from rfl] at e2
  rw [e2]
  congr 1
  unfold rotOf
  simp only [Nat.reduceSub, Int.reducePow]
  omega
end Go.Proofs.YtnddjndgfaefaaaDoor.F
end
section
namespace Go.Proofs.YtnddjndgfaefaaaDoor.F
set_option linter.unusedVariables false
set_option linter.unusedSimpArgs false
open Go.RowKit Go.Proofs.YtnddjndgfaefaaaDoorW.PrintWords Go.Proofs.YtnddjndgfaefaaaDoorW.PrintLast Go.Proofs.YtnddjndgfaefaaaDoorW.PrintMore
attribute [local irreducible] dec_Encode.f dec_Form.f ferryref07_Encode.f
theorem aform_sll : dec_Form.f ⟨#[115, 108, 108]⟩ = some ⟨#[100, 116, 97]⟩ := by decide +kernel
theorem aform_srl : dec_Form.f ⟨#[115, 114, 108]⟩ = some ⟨#[100, 116, 97]⟩ := by decide +kernel
theorem aform_rotr : dec_Form.f ⟨#[114, 111, 116, 114]⟩ = some ⟨#[100, 116, 114]⟩ := by decide +kernel
theorem aform_clz : dec_Form.f ⟨#[99, 108, 122]⟩ = some ⟨#[100, 115, 100]⟩ := by decide +kernel
theorem aform_clo : dec_Form.f ⟨#[99, 108, 111]⟩ = some ⟨#[100, 115, 100]⟩ := by decide +kernel
theorem aform_wsbh : dec_Form.f ⟨#[119, 115, 98, 104]⟩ = some ⟨#[100, 116]⟩ := by decide +kernel
theorem trim_sll : strings_TrimSuffix.f ⟨#[115, 108, 108]⟩ ⟨#[118]⟩ = some ⟨#[115, 108, 108]⟩ := by decide +kernel
theorem trim_srl : strings_TrimSuffix.f ⟨#[115, 114, 108]⟩ ⟨#[118]⟩ = some ⟨#[115, 114, 108]⟩ := by decide +kernel
theorem trim_rotr : strings_TrimSuffix.f ⟨#[114, 111, 116, 114]⟩ ⟨#[118]⟩ = some ⟨#[114, 111, 116, 114]⟩ := by decide +kernel
theorem l_clo : (⟨#[99, 108, 111]⟩ : ByteArray).toList = [99, 108, 111] := lb _
theorem l_clz : (⟨#[99, 108, 122]⟩ : ByteArray).toList = [99, 108, 122] := lb _
theorem l_dsd : (⟨#[100, 115, 100]⟩ : ByteArray).toList = [100, 115, 100] := lb _
theorem l_dt : (⟨#[100, 116]⟩ : ByteArray).toList = [100, 116] := lb _
theorem l_dta : (⟨#[100, 116, 97]⟩ : ByteArray).toList = [100, 116, 97] := lb _
theorem l_dtr : (⟨#[100, 116, 114]⟩ : ByteArray).toList = [100, 116, 114] := lb _
theorem l_rotr : (⟨#[114, 111, 116, 114]⟩ : ByteArray).toList = [114, 111, 116, 114] := lb _
theorem l_sll : (⟨#[115, 108, 108]⟩ : ByteArray).toList = [115, 108, 108] := lb _
theorem l_srl : (⟨#[115, 114, 108]⟩ : ByteArray).toList = [115, 114, 108] := lb _
theorem l_wsbh : (⟨#[119, 115, 98, 104]⟩ : ByteArray).toList = [119, 115, 98, 104] := lb _
set_option maxHeartbeats 2000000 in
theorem aval_sll (x1 x2 d a i s t v : Int) (s0 : 0 ≤ s) (s1 : s ≤ 4294967295) (t0 : 0 ≤ t) (t1 : t ≤ 4294967295) (i0 : 0 ≤ i) (i1 : i ≤ 4294967295) (d0 : 0 ≤ d) (d1 : d < 32) (a0 : 0 ≤ a) (a1 : a < 32) (he : dec_Encode.f ⟨#[115, 108, 108]⟩ x1 x2 d a i = some (v, true)) :
    alu_Do.f ⟨#[115, 108, 108]⟩ x1 x2 d a i s t = some (t * 2 ^ a.toNat % 4294967296, true) := by
  unfold alu_Do.f
  rw [he, Option.bind_some]
  dsimp only
  rw [if_pos rfl, if_pos (show (⟨#[115, 108, 108]⟩ : ByteArray).toList ∈ aluNames from by rw [l_sll]; decide), aform_sll, Option.bind_some]
  rw [l_dta, if_neg (by decide), if_neg (by decide), if_pos rfl]
  have hsh : alu_shift.f ⟨#[115, 108, 108]⟩ t a = some (t * 2 ^ a.toNat % 4294967296) := by
    unfold alu_shift.f
    rw [trim_sll, Option.bind_some]
    rw [l_sll, if_pos rfl]
    obtain ⟨k, rfl⟩ : ∃ k : Nat, a = k := ⟨a.toNat, by omega⟩
    rw [Int.toNat_natCast]
    have hk1 : k < 32 := by omega
    rw [if_pos (by omega), shl32 _ _ (by omega)]
  rw [hsh]
  rfl
set_option maxHeartbeats 2000000 in
theorem aval_srl (x1 x2 d a i s t v : Int) (s0 : 0 ≤ s) (s1 : s ≤ 4294967295) (t0 : 0 ≤ t) (t1 : t ≤ 4294967295) (i0 : 0 ≤ i) (i1 : i ≤ 4294967295) (d0 : 0 ≤ d) (d1 : d < 32) (a0 : 0 ≤ a) (a1 : a < 32) (he : dec_Encode.f ⟨#[115, 114, 108]⟩ x1 x2 d a i = some (v, true)) :
    alu_Do.f ⟨#[115, 114, 108]⟩ x1 x2 d a i s t = some (t / 2 ^ a.toNat, true) := by
  unfold alu_Do.f
  rw [he, Option.bind_some]
  dsimp only
  rw [if_pos rfl, if_pos (show (⟨#[115, 114, 108]⟩ : ByteArray).toList ∈ aluNames from by rw [l_srl]; decide), aform_srl, Option.bind_some]
  rw [l_dta, if_neg (by decide), if_neg (by decide), if_pos rfl]
  have hsh : alu_shift.f ⟨#[115, 114, 108]⟩ t a = some (t / 2 ^ a.toNat) := by
    unfold alu_shift.f
    rw [trim_srl, Option.bind_some]
    rw [l_srl, if_neg (by decide), if_pos rfl]
    obtain ⟨k, rfl⟩ : ∃ k : Nat, a = k := ⟨a.toNat, by omega⟩
    rw [Int.toNat_natCast]
    have hk1 : k < 32 := by omega
    rw [if_pos (by omega), shr32 _ rfl _ _ (by omega)]
  rw [hsh]
  rfl
set_option maxHeartbeats 2000000 in
theorem aval_rotr (x1 x2 d a i s t v : Int) (s0 : 0 ≤ s) (s1 : s ≤ 4294967295) (t0 : 0 ≤ t) (t1 : t ≤ 4294967295) (i0 : 0 ≤ i) (i1 : i ≤ 4294967295) (d0 : 0 ≤ d) (d1 : d < 32) (a0 : 0 ≤ a) (a1 : a < 32) (he : dec_Encode.f ⟨#[114, 111, 116, 114]⟩ x1 x2 d a i = some (v, true)) :
    alu_Do.f ⟨#[114, 111, 116, 114]⟩ x1 x2 d a i s t = some (rotOf t a.toNat, true) := by
  unfold alu_Do.f
  rw [he, Option.bind_some]
  dsimp only
  rw [if_pos rfl, if_pos (show (⟨#[114, 111, 116, 114]⟩ : ByteArray).toList ∈ aluNames from by rw [l_rotr]; decide), aform_rotr, Option.bind_some]
  rw [l_dtr, if_neg (by decide), if_neg (by decide), if_neg (by decide), if_pos rfl]
  have hsh : alu_shift.f ⟨#[114, 111, 116, 114]⟩ t a = some (rotOf t a.toNat) := by
    unfold alu_shift.f
    rw [trim_rotr, Option.bind_some]
    rw [l_rotr, if_neg (by decide), if_neg (by decide), if_neg (by decide)]
    obtain ⟨k, rfl⟩ : ∃ k : Nat, a = k := ⟨a.toNat, by omega⟩
    rw [Int.toNat_natCast]
    have hk1 : k < 32 := by omega
    rw [swap_Rot_spec t (k : Int) t0 t1, show ((k : Int) % 32).toNat = k from by omega]
    rfl
  rw [hsh]
  rfl
set_option maxHeartbeats 2000000 in
theorem aval_clz (x1 x2 d a i s t v : Int) (s0 : 0 ≤ s) (s1 : s ≤ 4294967295) (t0 : 0 ≤ t) (t1 : t ≤ 4294967295) (i0 : 0 ≤ i) (i1 : i ≤ 4294967295) (d0 : 0 ≤ d) (d1 : d < 32) (a0 : 0 ≤ a) (a1 : a < 32) (he : dec_Encode.f ⟨#[99, 108, 122]⟩ x1 x2 d a i = some (v, true)) :
    alu_Do.f ⟨#[99, 108, 122]⟩ x1 x2 d a i s t = some (32 - (Lib.bitLen s.toNat : Int), true) := by
  unfold alu_Do.f
  rw [he, Option.bind_some]
  dsimp only
  rw [if_pos rfl, if_pos (show (⟨#[99, 108, 122]⟩ : ByteArray).toList ∈ aluNames from by rw [l_clz]; decide), aform_clz, Option.bind_some]
  rw [l_dsd, if_neg (by decide), if_neg (by decide), if_neg (by decide), if_neg (by decide), if_neg (by decide), if_neg (by decide)]
  rw [l_clz, if_neg (fun h => absurd h.1 (by decide)), if_neg (fun h => absurd h.1 (by decide))]
  have hbo : alu_both.f ⟨#[99, 108, 122]⟩ x1 x2 d a i s t = some (32 - (Lib.bitLen s.toNat : Int)) := by
    unfold alu_both.f
    rw [l_clz, if_neg (by decide), if_neg (by decide), if_neg (by decide), if_neg (by decide), if_neg (by decide), if_neg (by decide), if_neg (by decide), if_neg (by decide), if_neg (by decide), if_neg (by decide)]
    unfold alu_fields.f
    rw [l_clz, if_neg (by decide), if_neg (by decide), if_neg (by decide), if_neg (by decide), if_neg (by decide), if_pos rfl]
    rw [zeros_of s s0 s1, Option.bind_some, Option.bind_some]
    have l := (len_facts s.toNat (by omega)).1
    rw [Int.emod_eq_of_lt (by omega) (by omega)]
  rw [hbo]
  rfl
set_option maxHeartbeats 2000000 in
theorem aval_clo (x1 x2 d a i s t v : Int) (s0 : 0 ≤ s) (s1 : s ≤ 4294967295) (t0 : 0 ≤ t) (t1 : t ≤ 4294967295) (i0 : 0 ≤ i) (i1 : i ≤ 4294967295) (d0 : 0 ≤ d) (d1 : d < 32) (a0 : 0 ≤ a) (a1 : a < 32) (he : dec_Encode.f ⟨#[99, 108, 111]⟩ x1 x2 d a i = some (v, true)) :
    alu_Do.f ⟨#[99, 108, 111]⟩ x1 x2 d a i s t = some (32 - (Lib.bitLen (4294967295 - s).toNat : Int), true) := by
  unfold alu_Do.f
  rw [he, Option.bind_some]
  dsimp only
  rw [if_pos rfl, if_pos (show (⟨#[99, 108, 111]⟩ : ByteArray).toList ∈ aluNames from by rw [l_clo]; decide), aform_clo, Option.bind_some]
  rw [l_dsd, if_neg (by decide), if_neg (by decide), if_neg (by decide), if_neg (by decide), if_neg (by decide), if_neg (by decide)]
  rw [l_clo, if_neg (fun h => absurd h.1 (by decide)), if_neg (fun h => absurd h.1 (by decide))]
  have hbo : alu_both.f ⟨#[99, 108, 111]⟩ x1 x2 d a i s t = some (32 - (Lib.bitLen (4294967295 - s).toNat : Int)) := by
    unfold alu_both.f
    rw [l_clo, if_neg (by decide), if_neg (by decide), if_neg (by decide), if_neg (by decide), if_neg (by decide), if_neg (by decide), if_neg (by decide), if_neg (by decide), if_neg (by decide), if_neg (by decide)]
    unfold alu_fields.f
    rw [l_clo, if_neg (by decide), if_neg (by decide), if_neg (by decide), if_neg (by decide), if_neg (by decide), if_neg (by decide), if_pos rfl]
    rw [bits_not s0 s1, zeros_of _ (by omega) (by omega), Option.bind_some, Option.bind_some]
    have l := (len_facts (4294967295 - s).toNat (by omega)).1
    rw [Int.emod_eq_of_lt (by omega) (by omega)]
  rw [hbo]
  rfl
set_option maxHeartbeats 2000000 in
theorem aval_wsbh (x1 x2 d a i s t v : Int) (s0 : 0 ≤ s) (s1 : s ≤ 4294967295) (t0 : 0 ≤ t) (t1 : t ≤ 4294967295) (i0 : 0 ≤ i) (i1 : i ≤ 4294967295) (d0 : 0 ≤ d) (d1 : d < 32) (a0 : 0 ≤ a) (a1 : a < 32) (he : dec_Encode.f ⟨#[119, 115, 98, 104]⟩ x1 x2 d a i = some (v, true)) :
    alu_Do.f ⟨#[119, 115, 98, 104]⟩ x1 x2 d a i s t = some (swOf t, true) := by
  unfold alu_Do.f
  rw [he, Option.bind_some]
  dsimp only
  rw [if_pos rfl, if_pos (show (⟨#[119, 115, 98, 104]⟩ : ByteArray).toList ∈ aluNames from by rw [l_wsbh]; decide), aform_wsbh, Option.bind_some]
  rw [l_dt, if_neg (by decide), if_neg (by decide), if_neg (by decide), if_neg (by decide), if_neg (by decide), if_neg (by decide)]
  rw [l_wsbh, if_neg (fun h => absurd h.1 (by decide)), if_neg (fun h => absurd h.1 (by decide))]
  have hbo : alu_both.f ⟨#[119, 115, 98, 104]⟩ x1 x2 d a i s t = some (swOf t) := by
    unfold alu_both.f
    rw [l_wsbh, if_neg (by decide), if_neg (by decide), if_neg (by decide), if_neg (by decide), if_neg (by decide), if_neg (by decide), if_neg (by decide), if_neg (by decide), if_neg (by decide), if_neg (by decide)]
    unfold alu_fields.f
    rw [l_wsbh, if_neg (by decide), if_neg (by decide), if_pos rfl]
    rw [wsbh_of t t0 t1]
    rfl
  rw [hbo]
  rfl
end Go.Proofs.YtnddjndgfaefaaaDoor.F
end
