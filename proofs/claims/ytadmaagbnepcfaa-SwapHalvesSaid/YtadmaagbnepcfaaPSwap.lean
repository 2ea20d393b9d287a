/- Package swap in plain numbers: multiples, signs and turns, what they are; the document's answers are the same. Condition: numbers of their kinds. -/
import Derived.Test.YtadmaagbnepcfaaBits
import Derived.Test.YtadmaagbnepcfaaFSwapUp
import Derived.Test.YtadmaagbnepcfaaFSwapSext
import Derived.Test.YtadmaagbnepcfaaFSwapRot
namespace Go.Proofs.Ytadmaagbnepcfaa.F
set_option linter.unusedVariables false
open Go.RowKit Go.Proofs.YtadmaagbnepcfaaW.PrintWords Go.Proofs.YtadmaagbnepcfaaW.PrintLast Go.Proofs.YtadmaagbnepcfaaW.PrintMore

/-- up to a multiple -/
def upOf (v b : Int) : Int × Bool := if b = 0 then (0, false) else if (v + b - 1) / b * b ≥ 4294967296 then (0, false) else ((v + b - 1) / b * b, true)
theorem up_le {v b : Int} (h0 : 0 ≤ v) (hb : 0 < b) : v ≤ (v + b - 1) / b * b ∧ (v + b - 1) / b * b < v + b := by
  have e := Int.mul_ediv_add_emod (v + b - 1) b
  have h1 := Int.emod_nonneg (v + b - 1) (show b ≠ 0 by omega)
  have h2 := Int.emod_lt_of_pos (v + b - 1) hb
  rw [Int.mul_comm] at e
  omega
theorem up_mod {v b : Int} (h0 : 0 ≤ v) (hb : 0 < b) : (v % b = 0 → (v + b - 1) / b * b = v) ∧ (v % b ≠ 0 → (v + b - 1) / b * b = v + (b - v % b)) := by
  have e := Int.mul_ediv_add_emod v b
  have h1 := Int.emod_nonneg v (show b ≠ 0 by omega)
  have h2 := Int.emod_lt_of_pos v hb
  constructor
  · intro hz
    obtain ⟨hd, _⟩ := div_mod_of (a := v + b - 1) (b := b) (q := v / b) (r := b - 1) (by omega) (by omega) (by omega)
    rw [hd, Int.mul_comm]
    omega
  · intro hz
    obtain ⟨hd, _⟩ := div_mod_of (a := v + b - 1) (b := b) (q := v / b + 1) (r := v % b - 1) (by rw [Int.mul_add]; omega) (by omega) (by omega)
    rw [hd, Int.add_mul, Int.mul_comm]
    omega
theorem swap_Up_spec (v b : Int) (h0 : 0 ≤ v) (h1 : v ≤ 4294967295) (h2 : 0 ≤ b) (h3 : b ≤ 4294967295) : swap_Up.f v b = some (upOf v b) := by
  unfold swap_Up.f upOf
  by_cases hb : b = 0
  · rw [if_pos hb, if_pos hb]
  · rw [if_neg hb, if_neg hb]
    have hb0 : 0 < b := by omega
    rw [Int.tmod_eq_emod_of_nonneg h0]
    have hm := up_mod h0 hb0
    have hr0 := Int.emod_nonneg v hb
    have hr1 := Int.emod_lt_of_pos v hb0
    by_cases hz : v % b = 0
    · rw [if_pos hz, hm.1 hz, if_neg (by omega)]
    · rw [if_neg hz, hm.2 hz]
      have e1 : (b - v % b) % 4294967296 = b - v % b := Int.emod_eq_of_lt (by omega) (by omega)
      rw [e1]
      by_cases hh : v + (b - v % b) ≥ 4294967296
      · rw [if_pos hh, if_pos (by omega)]
      · rw [if_neg hh, if_neg (by omega), Int.emod_eq_of_lt (by omega) (by omega)]

/-- a number whose lowest b bits have a sign -/
def sxOf (v : Int) (b : Nat) : Int := if v % 2 ^ b < 2 ^ (b - 1) then v % 2 ^ b else v % 2 ^ b + 4294967296 - 2 ^ b
theorem cases32 {b : Nat} (h0 : 1 ≤ b) (h1 : b ≤ 32) : b = 1 ∨ b = 2 ∨ b = 3 ∨ b = 4 ∨ b = 5 ∨ b = 6 ∨ b = 7 ∨ b = 8 ∨ b = 9 ∨ b = 10 ∨ b = 11 ∨ b = 12 ∨ b = 13 ∨ b = 14 ∨ b = 15 ∨ b = 16 ∨ b = 17 ∨ b = 18 ∨ b = 19 ∨ b = 20 ∨ b = 21 ∨ b = 22 ∨ b = 23 ∨ b = 24 ∨ b = 25 ∨ b = 26 ∨ b = 27 ∨ b = 28 ∨ b = 29 ∨ b = 30 ∨ b = 31 ∨ b = 32 := by omega
theorem shl32 (v : Int) (n : Nat) (h : n ≤ 32) : shl .u32 v n = v * 2 ^ n % 4294967296 := by
  unfold shl
  rw [Int.toNat_natCast, show IntKind.u32.bits = 32 from rfl, Nat.min_eq_left h, u32w]
theorem shr32 (k : IntKind) (hk : k.bits = 32) (v : Int) (n : Nat) (h : n ≤ 32) : shr k v n = v / 2 ^ n := by
  unfold shr
  rw [Int.toNat_natCast, hk, Nat.min_eq_left h]
theorem sext_arith (v : Int) (b : Nat) (h0 : 0 ≤ v) (h1 : v ≤ 4294967295) (hb0 : 1 ≤ b) (hb1 : b ≤ 32) : wrap32 (v * 2 ^ (32 - b) % 4294967296) / 2 ^ (32 - b) % 4294967296 = sxOf v b := by
  unfold wrap32 sxOf
  rcases cases32 hb0 hb1 with rfl | rfl | rfl | rfl | rfl | rfl | rfl | rfl | rfl | rfl | rfl | rfl | rfl | rfl | rfl | rfl | rfl | rfl | rfl | rfl | rfl | rfl | rfl | rfl | rfl | rfl | rfl | rfl | rfl | rfl | rfl | rfl <;> (simp only [Nat.reduceSub, Int.reducePow]; omega)
theorem swap_Sext_spec (v : Int) (b : Nat) (h0 : 0 ≤ v) (h1 : v ≤ 4294967295) (hb0 : 1 ≤ b) (hb1 : b ≤ 32) : swap_Sext.f v b = some (sxOf v b) := by
  unfold swap_Sext.f
  have e : wrap64 (32 - (b : Int)) = ((32 - b : Nat) : Int) := by rw [w64_id (by omega) (by omega)]; omega
  rw [if_neg (by omega), if_neg (by omega), e, if_pos (by omega), shl32 _ _ (by omega), shr32 _ rfl _ _ (by omega), sext_arith v b h0 h1 hb0 hb1]
theorem swap_Sext_out (v b : Int) (h : b < 1 ∨ 32 < b) : swap_Sext.f v b = some v := by
  unfold swap_Sext.f
  by_cases h1 : b < 1
  · rw [if_pos h1]
  · rw [if_neg h1, if_pos (by omega)]

/-- turned down by n bits -/
def rotOf (v : Int) (n : Nat) : Int := v / 2 ^ n + v % 2 ^ n * 2 ^ (32 - n)
theorem cases31 {n : Nat} (h1 : n < 32) : n = 0 ∨ n = 1 ∨ n = 2 ∨ n = 3 ∨ n = 4 ∨ n = 5 ∨ n = 6 ∨ n = 7 ∨ n = 8 ∨ n = 9 ∨ n = 10 ∨ n = 11 ∨ n = 12 ∨ n = 13 ∨ n = 14 ∨ n = 15 ∨ n = 16 ∨ n = 17 ∨ n = 18 ∨ n = 19 ∨ n = 20 ∨ n = 21 ∨ n = 22 ∨ n = 23 ∨ n = 24 ∨ n = 25 ∨ n = 26 ∨ n = 27 ∨ n = 28 ∨ n = 29 ∨ n = 30 ∨ n = 31 := by omega
theorem and31 (n : Int) : Go.bits .and .i64 n 31 = n % 32 := and_mask_i64 n 5 (by decide)
theorem rot_arith (v : Int) (n : Nat) (h0 : 0 ≤ v) (h1 : v ≤ 4294967295) (hn : n < 32) : Go.bits .or .u32 (v / 2 ^ n) (v * 2 ^ (32 - n) % 4294967296) = rotOf v n := by
  have e : v * 2 ^ (32 - n) % 4294967296 = v % 2 ^ n * 2 ^ (32 - n) := by
    rcases cases31 hn with rfl | rfl | rfl | rfl | rfl | rfl | rfl | rfl | rfl | rfl | rfl | rfl | rfl | rfl | rfl | rfl | rfl | rfl | rfl | rfl | rfl | rfl | rfl | rfl | rfl | rfl | rfl | rfl | rfl | rfl | rfl | rfl <;> (simp only [Nat.reduceSub, Int.reducePow]; omega)
  have b1 : v / 2 ^ n < 2 ^ (32 - n) ∧ 0 ≤ v / 2 ^ n ∧ v / 2 ^ n ≤ 4294967295 := by
    rcases cases31 hn with rfl | rfl | rfl | rfl | rfl | rfl | rfl | rfl | rfl | rfl | rfl | rfl | rfl | rfl | rfl | rfl | rfl | rfl | rfl | rfl | rfl | rfl | rfl | rfl | rfl | rfl | rfl | rfl | rfl | rfl | rfl | rfl <;> (simp only [Nat.reduceSub, Int.reducePow]; omega)
  have b2 : v % 2 ^ n * 2 ^ (32 - n) % 2 ^ (32 - n) = 0 := Int.mul_emod_left _ _
  have b3 : 0 ≤ v * 2 ^ (32 - n) % 4294967296 ∧ v * 2 ^ (32 - n) % 4294967296 ≤ 4294967295 := by omega
  rw [bits_or_comm, join32 (32 - n) b3.1 b3.2 (by rw [e]; exact b2) b1.2.1 b1.1 b1.2.2, e, Int.add_comm]
  rfl
theorem swap_Rot_spec (v n : Int) (h0 : 0 ≤ v) (h1 : v ≤ 4294967295) : swap_Rot.f v n = some (rotOf v (n % 32).toNat) := by
  unfold swap_Rot.f
  rw [and31]
  obtain ⟨m, hm⟩ : ∃ m : Nat, n % 32 = m := ⟨(n % 32).toNat, by omega⟩
  have hm32 : m < 32 := by omega
  rw [hm, Int.toNat_natCast]
  have e : wrap64 (32 - (m : Int)) = ((32 - m : Nat) : Int) := by rw [w64_id (by omega) (by omega)]; omega
  rw [if_pos (by omega), e, if_pos (by omega), shl32 _ _ (by omega), shr32 _ rfl _ _ (by omega), rot_arith v m h0 h1 hm32]
end Go.Proofs.Ytadmaagbnepcfaa.F
