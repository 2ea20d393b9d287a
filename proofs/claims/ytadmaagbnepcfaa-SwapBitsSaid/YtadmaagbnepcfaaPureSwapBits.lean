/- The pure statement of the law SwapBits, proved: multiples, signs and turns are the document's. No condition. -/
import Derived.Test.YtadmaagbnepcfaaQSwapBits
import Derived.Test.YtadmaagbnepcfaaPSwap
namespace Go.Proofs.Ytadmaagbnepcfaa.F
open Go.RowKit Go.Proofs.YtadmaagbnepcfaaW.PrintWords Go.Proofs.YtadmaagbnepcfaaW.PrintLast Go.Proofs.YtadmaagbnepcfaaW.PrintMore
set_option linter.unusedVariables false
theorem ref_Up_spec (v b : Int) (h0 : 0 ≤ v) (h1 : v ≤ 4294967295) (h2 : 0 ≤ b) (h3 : b ≤ 4294967295) : ferryref01_Up.f v b = some (upOf v b) := by
  unfold ferryref01_Up.f upOf
  by_cases hb : b = 0
  · rw [if_pos hb, if_pos hb]
  · have hb0 : 0 < b := by omega
    have hu := up_le h0 hb0
    have e1 : IntKind.u64.wrap b = b := by rw [u64w]; omega
    have e2 : IntKind.u64.wrap v = v := by rw [u64w]; omega
    have e3 : IntKind.u64.wrap (v + b) = v + b := by rw [u64w]; omega
    have e4 : IntKind.u64.wrap (v + b - 1) = v + b - 1 := by rw [u64w]; omega
    have hq0 : 0 ≤ (v + b - 1) / b := Int.ediv_nonneg (by omega) (by omega)
    have hq1 : (v + b - 1) / b ≤ v + b - 1 := Int.ediv_le_self _ (by omega)
    have e5 : IntKind.u64.wrap ((v + b - 1) / b) = (v + b - 1) / b := by rw [u64w]; omega
    have e6 : IntKind.u64.wrap ((v + b - 1) / b * b) = (v + b - 1) / b * b := by rw [u64w]; omega
    rw [if_neg hb, e1, if_neg hb, e2, e3, e4, Int.tdiv_eq_ediv_of_nonneg (by omega), e5, e6, if_neg hb]
    by_cases hh : (v + b - 1) / b * b ≥ 4294967296
    · rw [if_pos hh, if_pos hh]
    · rw [if_neg hh, if_neg hh, Int.emod_eq_of_lt (by omega) (by omega)]
theorem cases31b {b : Nat} (h0 : 1 ≤ b) (h1 : b ≤ 31) : b = 1 ∨ b = 2 ∨ b = 3 ∨ b = 4 ∨ b = 5 ∨ b = 6 ∨ b = 7 ∨ b = 8 ∨ b = 9 ∨ b = 10 ∨ b = 11 ∨ b = 12 ∨ b = 13 ∨ b = 14 ∨ b = 15 ∨ b = 16 ∨ b = 17 ∨ b = 18 ∨ b = 19 ∨ b = 20 ∨ b = 21 ∨ b = 22 ∨ b = 23 ∨ b = 24 ∨ b = 25 ∨ b = 26 ∨ b = 27 ∨ b = 28 ∨ b = 29 ∨ b = 30 ∨ b = 31 := by omega
theorem ref_Sext_spec (k : Nat) (v b : Int) (h0 : 0 ≤ v) (h1 : v ≤ 4294967295) (h2 : -9223372036854775808 ≤ b) (h3 : b ≤ 9223372036854775807) : ferryref01_Sext.f (k + 1) v b = swap_Sext.f v b := by
  unfold ferryref01_Sext.f
  by_cases hb : b < 1
  · rw [if_pos hb, swap_Sext_out v b (.inl hb)]
    simp only [ferryref01_Sext.j0]
    rfl
  · rw [if_neg hb]
    simp only [ferryref01_Sext.j0]
    by_cases hb2 : b > 31
    · rw [if_pos (decide_eq_true hb2)]
      by_cases hb3 : 32 < b
      · rw [swap_Sext_out v b (.inr hb3)]
      · have e : b = ((32 : Nat) : Int) := by omega
        subst e
        rw [swap_Sext_spec v 32 h0 h1 (by omega) (by omega)]
        unfold sxOf
        simp only [Nat.reduceSub, Int.reducePow]
        split <;> (congr 1; omega)
    · rw [if_neg (by rw [decide_eq_true_eq]; exact hb2)]
      obtain ⟨n, rfl⟩ : ∃ n : Nat, b = n := ⟨b.toNat, by omega⟩
      have hn0 : 1 ≤ n := by omega
      have hn1 : n ≤ 31 := by omega
      rw [swap_Sext_spec v n h0 h1 hn0 (by omega)]
      have e1 : IntKind.u64.wrap (n : Int) = ((n : Nat) : Int) := by rw [u64w]; omega
      have e2 : IntKind.u64.wrap (wrap64 ((n : Int) - 1)) = ((n - 1 : Nat) : Int) := by rw [u64w, w64_id (by omega) (by omega)]; omega
      have e3 : (shl .u32 1 (n : Int) - 1) % 4294967296 = 2 ^ n - 1 := by
        rw [shl32 _ _ (by omega)]
        rcases cases31b hn0 hn1 with rfl | rfl | rfl | rfl | rfl | rfl | rfl | rfl | rfl | rfl | rfl | rfl | rfl | rfl | rfl | rfl | rfl | rfl | rfl | rfl | rfl | rfl | rfl | rfl | rfl | rfl | rfl | rfl | rfl | rfl | rfl <;> decide
      rw [e1, e2, if_pos (by omega), if_pos (by omega), e3, mask32 n (by omega) h0 h1, shr32 _ rfl _ _ (by omega)]
      unfold sxOf
      have a1 : v % 2 ^ n / 2 ^ (n - 1) = 1 ↔ ¬ v % 2 ^ n < 2 ^ (n - 1) := by
        rcases cases31b hn0 hn1 with rfl | rfl | rfl | rfl | rfl | rfl | rfl | rfl | rfl | rfl | rfl | rfl | rfl | rfl | rfl | rfl | rfl | rfl | rfl | rfl | rfl | rfl | rfl | rfl | rfl | rfl | rfl | rfl | rfl | rfl | rfl <;> (simp only [Nat.reduceSub, Int.reducePow]; omega)
      have a2 : (4294967295 - (2 ^ n - 1) : Int) % 2 ^ n = 0 ∧ 0 ≤ (4294967295 - (2 ^ n - 1) : Int) ∧ (4294967295 - (2 ^ n - 1) : Int) ≤ 4294967295 := by
        rcases cases31b hn0 hn1 with rfl | rfl | rfl | rfl | rfl | rfl | rfl | rfl | rfl | rfl | rfl | rfl | rfl | rfl | rfl | rfl | rfl | rfl | rfl | rfl | rfl | rfl | rfl | rfl | rfl | rfl | rfl | rfl | rfl | rfl | rfl <;> decide
      have a3 : 0 ≤ v % 2 ^ n ∧ v % 2 ^ n < 2 ^ n ∧ v % 2 ^ n ≤ 4294967295 := by
        rcases cases31b hn0 hn1 with rfl | rfl | rfl | rfl | rfl | rfl | rfl | rfl | rfl | rfl | rfl | rfl | rfl | rfl | rfl | rfl | rfl | rfl | rfl | rfl | rfl | rfl | rfl | rfl | rfl | rfl | rfl | rfl | rfl | rfl | rfl <;> (simp only [Int.reducePow]; omega)
      by_cases hh : v % 2 ^ n < 2 ^ (n - 1)
      · rw [if_neg (fun z => a1.1 z hh), if_pos hh]
      · rw [if_pos (a1.2 hh), if_neg hh, bits_or_comm, join32 n a2.2.1 a2.2.2 a2.1 a3.1 a3.2.1 a3.2.2]
        congr 1
        omega
theorem ref_Rot_spec (v n : Int) (h0 : 0 ≤ v) (h1 : v ≤ 4294967295) : ferryref01_Rot.f v n = swap_Rot.f v n := by
  rw [swap_Rot_spec v n h0 h1]
  unfold ferryref01_Rot.f
  have e : Int.tmod (IntKind.u64.wrap n) 32 = ((n % 32).toNat : Int) := by
    rw [u64w, Int.tmod_eq_emod_of_nonneg (Int.emod_nonneg _ (by decide))]
    omega
  rw [e]
  obtain ⟨m, hm⟩ : ∃ m : Nat, (n % 32).toNat = m := ⟨_, rfl⟩
  have hm32 : m < 32 := by omega
  rw [hm]
  by_cases hz : m = 0
  · rw [if_pos (by omega), hz]
    unfold rotOf
    simp only [Int.reducePow]
    congr 1
    omega
  · have e2 : IntKind.u64.wrap (32 - (m : Int)) = ((32 - m : Nat) : Int) := by rw [u64w]; omega
    rw [if_neg (by omega), if_pos (by omega), e2, if_pos (by omega), shl32 _ _ (by omega), shr32 _ rfl _ _ (by omega), rot_arith v m h0 h1 hm32]
theorem SwapBits_pure : ferrylaw01_SwapBits.Pure := by
  intro a0 a1 a2 a3 w0 w1 w2 w3
  refine ⟨1, ?_⟩
  have haw : ferrylaw01_awake.f = some true := by decide +kernel
  obtain ⟨s, hs⟩ : ∃ s, swap_Sext.f a0 a1 = some s := by
    by_cases h : a1 < 1 ∨ 32 < a1
    · exact ⟨_, swap_Sext_out a0 a1 h⟩
    · obtain ⟨n, rfl⟩ : ∃ n : Nat, a1 = n := ⟨a1.toNat, by omega⟩
      exact ⟨_, swap_Sext_spec a0 n w0.1 w0.2 (by omega) (by omega)⟩
  unfold ferrylaw01_SwapBits.f
  rw [swap_Up_spec a0 a3 w0.1 w0.2 w3.1 w3.2, ref_Up_spec a0 a3 w0.1 w0.2 w3.1 w3.2, ref_Sext_spec 0 a0 a1 w0.1 w0.2 w1.1 w1.2, ref_Rot_spec a0 a2 w0.1 w0.2, hs, swap_Rot_spec a0 a2 w0.1 w0.2, haw]
  simp
end Go.Proofs.Ytadmaagbnepcfaa.F
