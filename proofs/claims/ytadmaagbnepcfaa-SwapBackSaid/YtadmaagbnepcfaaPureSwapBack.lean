/- The pure statement of the law SwapBack, proved: a number's bytes, in either order, are read as it; one order is the other one turned about. No condition. -/
import Derived.Test.YtadmaagbnepcfaaQSwapBack
import Derived.Test.YtadmaagbnepcfaaPSwapBytes
namespace Go.Proofs.Ytadmaagbnepcfaa.F
open Go.RowKit Go.Proofs.YtadmaagbnepcfaaW.PrintWords Go.Proofs.YtadmaagbnepcfaaW.PrintLast Go.Proofs.YtadmaagbnepcfaaW.PrintMore
set_option linter.unusedVariables false
theorem cases9 {n : Nat} (h : n ≤ 8) : n = 0 ∨ n = 1 ∨ n = 2 ∨ n = 3 ∨ n = 4 ∨ n = 5 ∨ n = 6 ∨ n = 7 ∨ n = 8 := by omega
theorem back_loop (v : Int) (n : Nat) (k0 : Nat) (w : Int) (hn : n ≤ 8) (hw : ∀ k, ferrylaw01_SwapBack.l0 (k + 1) v (n : Int) ⟨(leBytes v n).reverse.toArray⟩ ⟨(leBytes v n).toArray⟩ (n : Int) (n : Int) = some true) :
    ∀ (d k i : Nat), i + d = n → d < k → ferrylaw01_SwapBack.l0 k v (n : Int) ⟨(leBytes v n).reverse.toArray⟩ ⟨(leBytes v n).toArray⟩ (n : Int) (i : Int) = some true
  | 0, k, i, h, hk => by
    obtain ⟨k, rfl⟩ : ∃ m, k = m + 1 := ⟨k - 1, by omega⟩
    obtain rfl : i = n := by omega
    exact hw k
  | d + 1, k, i, h, hk => by
    obtain ⟨k, rfl⟩ : ∃ m, k = m + 1 := ⟨k - 1, by omega⟩
    have ih := back_loop v n k0 w hn hw d k (i + 1) (by omega) (by omega)
    have hsz : ∀ l : List UInt8, (ByteArray.mk l.toArray).size = l.length := fun l => List.size_toArray
    have e1 : wrap64 (wrap64 ((n : Int) - 1) - (i : Int)) = ((n - 1 - i : Nat) : Int) := by rw [w64_id (n := (n : Int) - 1) (by omega) (by omega), w64_id (by omega) (by omega)]; omega
    have e2 : bt ⟨(leBytes v n).reverse.toArray⟩ (i : Int) = bt ⟨(leBytes v n).toArray⟩ ((n - 1 - i : Nat) : Int) := by
      unfold bt
      rw [Int.toNat_natCast, Int.toNat_natCast, dif_pos (by rw [hsz, List.length_reverse, leBytes_length]; omega), dif_pos (by rw [hsz, leBytes_length]; omega)]
      congr 2
      show (leBytes v n).reverse[i]'(by rw [List.length_reverse, leBytes_length]; omega) = (leBytes v n)[n - 1 - i]'(by rw [leBytes_length]; omega)
      simp [List.getElem_reverse, leBytes_length]
    simp only [ferrylaw01_SwapBack.l0]
    rw [if_pos (by omega), if_pos (by omega), if_pos (by rw [hsz, List.length_reverse, leBytes_length]; omega), e1, if_pos (by omega), if_pos (by rw [hsz, leBytes_length]; omega), if_pos e2, w64_id (by omega) (by omega)]
    exact ih
theorem SwapBack_pure : ferrylaw01_SwapBack.Pure := by
  intro v a1 wv w1
  have haw : ferrylaw01_awake.f = some true := by decide +kernel
  obtain ⟨n, hn⟩ : ∃ n : Nat, Int.tmod a1 9 = n := ⟨(a1 % 9).toNat, by rw [Int.tmod_eq_emod_of_nonneg w1.1]; omega⟩
  have hn8 : n ≤ 8 := by rw [Int.tmod_eq_emod_of_nonneg w1.1] at hn; omega
  have e0 : wrap64 (Int.tmod a1 9) = (n : Int) := by rw [hn, w64_id (by omega) (by omega)]
  have hle := putLe_eq v n hn8
  have hbe := putBe_eq v n hn8
  have hsz : ∀ l : List UInt8, (ByteArray.mk l.toArray).size = l.length := fun l => List.size_toArray
  have hbeR : swap_Be.f ⟨(leBytes v n).reverse.toArray⟩ = some (v % 256 ^ n) := be_back v n hn8 wv.1
  have hleR : swap_Le.f ⟨(leBytes v n).toArray⟩ = some (v % 256 ^ n) := le_back v n hn8 wv.1
  have hw : ∀ k, ferrylaw01_SwapBack.l0 (k + 1) v (n : Int) ⟨(leBytes v n).reverse.toArray⟩ ⟨(leBytes v n).toArray⟩ (n : Int) (n : Int) = some true := by
    intro k
    simp only [ferrylaw01_SwapBack.l0]
    rw [if_neg (by omega), hbeR, hleR, haw]
    simp only [Option.bind_some]
    by_cases h8 : (n : Int) < 8
    · have e1 : IntKind.u64.wrap (8 * IntKind.u64.wrap (n : Int)) = ((8 * n : Nat) : Int) := by rw [u64w, u64w]; omega
      have e2 : IntKind.u64.wrap (shl .u64 1 ((8 * n : Nat) : Int) - 1) = 2 ^ (8 * n) - 1 := by
        rcases cases9 hn8 with rfl | rfl | rfl | rfl | rfl | rfl | rfl | rfl | rfl <;> first | decide | omega
      have e3 : (2 : Int) ^ (8 * n) = 256 ^ n := by rw [Int.pow_mul]; rfl
      rw [if_pos h8, e1, if_pos (by omega), e2, mask64 (8 * n) (by omega) wv.1 wv.2, e3, if_pos rfl, if_pos rfl]
    · obtain rfl : n = 8 := by omega
      have e4 : v % 256 ^ 8 = v := by
        have e : (256 : Int) ^ 8 = 18446744073709551616 := by rfl
        rw [e]
        omega
      rw [if_neg h8, e4, if_pos rfl, if_pos rfl]
  refine ⟨20, ?_⟩
  unfold ferrylaw01_SwapBack.f
  rw [e0, hle, hbe]
  simp only [Option.bind_some]
  rw [if_pos (by rw [hsz, List.length_reverse, leBytes_length])]
  simp only [ferrylaw01_SwapBack.j0]
  rw [if_neg (by rw [hsz, leBytes_length]; simp)]
  exact back_loop v n 0 0 hn8 hw n 19 0 (by omega) (by omega)
end Go.Proofs.Ytadmaagbnepcfaa.F
