/- The pure statement of the law SwapTurns, proved: turned by a number of bits and by the others a number is as it was; a sign that was extended stays; a multiple is not below, and less than one multiple above. No condition. -/
import Derived.Test.YtadmaagbnepcfaaQSwapTurns
import Derived.Test.YtadmaagbnepcfaaPSwap
namespace Go.Proofs.Ytadmaagbnepcfaa.F
open Go.RowKit Go.Proofs.YtadmaagbnepcfaaW.PrintWords Go.Proofs.YtadmaagbnepcfaaW.PrintLast Go.Proofs.YtadmaagbnepcfaaW.PrintMore
set_option linter.unusedVariables false
theorem rot_back (v : Int) (n : Nat) (h0 : 0 ≤ v) (h1 : v ≤ 4294967295) (hn : n < 32) : rotOf (rotOf v n) ((32 - n) % 32) = v := by
  unfold rotOf
  rcases cases31 hn with rfl | rfl | rfl | rfl | rfl | rfl | rfl | rfl | rfl | rfl | rfl | rfl | rfl | rfl | rfl | rfl | rfl | rfl | rfl | rfl | rfl | rfl | rfl | rfl | rfl | rfl | rfl | rfl | rfl | rfl | rfl | rfl <;> (simp only [Nat.reduceSub, Nat.reduceMod, Int.reducePow]; omega)
theorem rot_bound (v : Int) (n : Nat) (h0 : 0 ≤ v) (h1 : v ≤ 4294967295) (hn : n < 32) : 0 ≤ rotOf v n ∧ rotOf v n ≤ 4294967295 := by
  unfold rotOf
  rcases cases31 hn with rfl | rfl | rfl | rfl | rfl | rfl | rfl | rfl | rfl | rfl | rfl | rfl | rfl | rfl | rfl | rfl | rfl | rfl | rfl | rfl | rfl | rfl | rfl | rfl | rfl | rfl | rfl | rfl | rfl | rfl | rfl | rfl <;> (simp only [Nat.reduceSub, Int.reducePow]; omega)
theorem sx_facts (v : Int) (b : Nat) (h0 : 0 ≤ v) (h1 : v ≤ 4294967295) (hb0 : 1 ≤ b) (hb1 : b ≤ 32) : (0 ≤ sxOf v b ∧ sxOf v b ≤ 4294967295) ∧ sxOf (sxOf v b) b = sxOf v b ∧ sxOf v b % 2 ^ b = v % 2 ^ b := by
  unfold sxOf
  rcases cases32 hb0 hb1 with rfl | rfl | rfl | rfl | rfl | rfl | rfl | rfl | rfl | rfl | rfl | rfl | rfl | rfl | rfl | rfl | rfl | rfl | rfl | rfl | rfl | rfl | rfl | rfl | rfl | rfl | rfl | rfl | rfl | rfl | rfl | rfl <;> (simp only [Nat.reduceSub, Int.reducePow]; omega)
theorem low_same (x v : Int) (b : Nat) (h0 : 0 ≤ v) (h1 : v ≤ 4294967295) (h2 : 0 ≤ x) (h3 : x ≤ 4294967295) (hb : b ≤ 32) (h : x % 2 ^ b = v % 2 ^ b) : Go.bits .and .u32 (Go.bits .xor .u32 x v) (2 ^ b - 1) = 0 := by
  obtain ⟨x, rfl⟩ := Int.eq_ofNat_of_zero_le h2
  obtain ⟨v, rfl⟩ := Int.eq_ofNat_of_zero_le h0
  have hx : x < 2 ^ 32 := by omega
  have hv : v < 2 ^ 32 := by omega
  have hxor : x ^^^ v < 2 ^ 32 := Nat.xor_lt_two_pow hx hv
  rw [(bits_nat32 x v hx hv).2.2, mask32 b hb (by omega) (by omega)]
  have h' : x % 2 ^ b = v % 2 ^ b := by
    have := congrArg Int.toNat h
    rw [show ((2 : Int) ^ b) = ((2 ^ b : Nat) : Int) by simp, ← Int.natCast_emod, ← Int.natCast_emod, Int.toNat_natCast, Int.toNat_natCast] at this
    exact this
  rw [show ((2 : Int) ^ b) = ((2 ^ b : Nat) : Int) by simp, ← Int.natCast_emod, Nat.xor_mod_two_pow, h', Nat.xor_self]
  rfl
theorem SwapTurns_pure : ferrylaw01_SwapTurns.Pure := by
  intro v n bits by_ wv wn wb wby
  have haw : ferrylaw01_awake.f = some true := by decide +kernel
  unfold ferrylaw01_SwapTurns.f
  obtain ⟨k, hk⟩ : ∃ k : Nat, Int.tmod n 33 = k := ⟨(n % 33).toNat, by rw [Int.tmod_eq_emod_of_nonneg wn.1]; omega⟩
  have hk33 : k < 33 := by rw [Int.tmod_eq_emod_of_nonneg wn.1] at hk; omega
  obtain ⟨m, hm⟩ : ∃ m : Nat, Int.tmod bits 32 + 1 = m := ⟨(bits % 32 + 1).toNat, by rw [Int.tmod_eq_emod_of_nonneg wb.1]; omega⟩
  have hm1 : 1 ≤ m ∧ m ≤ 32 := by rw [Int.tmod_eq_emod_of_nonneg wb.1] at hm; omega
  have e1 : wrap64 (Int.tmod n 33) = (k : Int) := by rw [hk, w64_id (by omega) (by omega)]
  have e2 : wrap64 (wrap64 (Int.tmod bits 32) + 1) = (m : Int) := by rw [w64_id (n := Int.tmod bits 32) (by omega) (by omega), hm, w64_id (by omega) (by omega)]
  have e3 : wrap64 (32 - (k : Int)) = 32 - (k : Int) := w64_id (by omega) (by omega)
  have hkm : ((k : Int) % 32).toNat = k % 32 := by omega
  have hkm2 : ((32 - (k : Int)) % 32).toNat = (32 - k % 32) % 32 := by omega
  have hrb := rot_bound v (k % 32) wv.1 wv.2 (by omega)
  have hsx := sx_facts v m wv.1 wv.2 hm1.1 hm1.2
  simp only [e1, e2, e3, haw]
  rw [swap_Sext_spec v m wv.1 wv.2 hm1.1 hm1.2, swap_Up_spec v by_ wv.1 wv.2 wby.1 wby.2, swap_Rot_spec v _ wv.1 wv.2]
  simp only [Option.bind_some]
  rw [hkm, swap_Rot_spec _ _ hrb.1 hrb.2]
  simp only [Option.bind_some]
  rw [hkm2, rot_back v (k % 32) wv.1 wv.2 (by omega), if_pos rfl, swap_Sext_spec _ m hsx.1.1 hsx.1.2 hm1.1 hm1.2]
  simp only [Option.bind_some]
  rw [hsx.2.1, if_pos rfl]
  have hup : ∀ (Y : Option Bool), Y = some true → (if (upOf v by_).2 = true then (if by_ > 0 then (if (upOf v by_).1 ≥ v then (if (((upOf v by_).1 - v) % 4294967296) < by_ then (if by_ = 0 then (none) else (if (Int.tmod (upOf v by_).1 by_) = 0 then Y else (some false))) else (some false)) else (some false)) else (some false)) else (if by_ = 0 then Y else (if v > (4294967295 - ((by_ - 1) % 4294967296)) then Y else (some false)))) = some true := by
    rintro Y rfl
    unfold upOf
    by_cases hb : by_ = 0
    · rw [if_pos hb]
      simp [hb]
    · rw [if_neg hb]
      have hb0 : 0 < by_ := by omega
      have hl := up_le wv.1 hb0
      by_cases hh : (v + by_ - 1) / by_ * by_ ≥ 4294967296
      · rw [if_pos hh]
        simp only [Bool.false_eq_true, if_false]
        rw [if_neg hb, if_pos (by omega)]
      · rw [if_neg hh]
        simp only [if_true]
        rw [if_pos hb0, if_pos (by omega), if_pos (by omega), if_neg hb, Int.tmod_eq_emod_of_nonneg (by omega), if_pos (Int.mul_emod_left _ _)]
  by_cases hm32 : (m : Int) < 32
  · have e4 : IntKind.u64.wrap (m : Int) = ((m : Nat) : Int) := by rw [u64w]; omega
    have e5 : (shl .u32 1 (m : Int) - 1) % 4294967296 = 2 ^ m - 1 := by
      rw [shl32 _ _ (by omega)]
      have hm31 : m < 32 := by omega
      rcases cases31 hm31 with rfl | rfl | rfl | rfl | rfl | rfl | rfl | rfl | rfl | rfl | rfl | rfl | rfl | rfl | rfl | rfl | rfl | rfl | rfl | rfl | rfl | rfl | rfl | rfl | rfl | rfl | rfl | rfl | rfl | rfl | rfl | rfl <;> first | omega | decide
    rw [if_pos hm32, e4, if_pos (by omega), e5, low_same _ _ m wv.1 wv.2 hsx.1.1 hsx.1.2 hm1.2 hsx.2.2, if_pos rfl]
    exact hup _ rfl
  · rw [if_neg hm32]
    exact hup _ rfl
end Go.Proofs.Ytadmaagbnepcfaa.F
