/- The pure statement of the law WideParts, proved. No condition. -/
import Derived.Test.YtommcnppgodhgaaDoorQWideParts
import Derived.Test.YtommcnppgodhgaaDoorPWideParts
namespace Go.Proofs.YtommcnppgodhgaaDoor.F
open Go.RowKit Go.Proofs.YtommcnppgodhgaaDoorW.PrintWords Go.Proofs.YtommcnppgodhgaaDoorW.PrintLast Go.Proofs.YtommcnppgodhgaaDoorW.PrintMore
set_option linter.unusedVariables false
set_option linter.unusedSimpArgs false
theorem parts_awake : ferrylaw10_awake.f = some true := by decide +kernel
theorem and3 (n : Int) : Go.bits .and .i64 n 3 = n % 4 := and_mask_i64 n 2 (by decide)
theorem byteAt_bound (x : Int) (k : Nat) : 0 ≤ byteAt x k ∧ byteAt x k ≤ 255 := by
  unfold byteAt
  omega
theorem word4_of (x y z u : Int) (x0 : 0 ≤ x ∧ x ≤ 255) (y0 : 0 ≤ y ∧ y ≤ 255) (z0 : 0 ≤ z ∧ z ≤ 255) (u0 : 0 ≤ u ∧ u ≤ 255) : word4 x y z u = x * 16777216 + y * 65536 + z * 256 + u := by
  unfold word4
  rw [join32 (x := x * 16777216 % 4294967296) 24 (by omega) (by omega) (by omega) (by omega) (by omega) (by omega)]
  rw [join32 (x := x * 16777216 % 4294967296 + y * 65536 % 4294967296) 16 (by omega) (by omega) (by omega) (by omega) (by omega) (by omega)]
  rw [join32 8 (by omega) (by omega) (by omega) (by omega) (by omega) (by omega)]
  omega
theorem bA0 (x : Int) : byteAt x 0 = x / 16777216 % 256 := rfl
theorem bA1 (x : Int) : byteAt x 1 = x / 65536 % 256 := rfl
theorem bA2 (x : Int) : byteAt x 2 = x / 256 % 256 := rfl
theorem bA3 (x : Int) : byteAt x 3 = x / 1 % 256 := rfl
theorem sameLoadLeft (o y n : Int) (a0 : 0 ≤ o) (a1 : o ≤ 4294967295) (b0 : 0 ≤ y) (b1 : y ≤ 4294967295) : ∃ r, wide_LoadLeft.f o y n = some r ∧ ferryref10_LoadLeft.f o y n = some r := by
  have e : wide_LoadLeft.f o y n = wide_LoadLeft.f o y (n % 4) := by
    unfold wide_LoadLeft.f
    rw [and3, and3, Int.emod_emod_of_dvd _ (Int.dvd_refl 4)]
  rw [e]
  unfold ferryref10_LoadLeft.f
  rw [if_pos ⟨a0, a1, b0, b1⟩]
  have hk : n % 4 = 0 ∨ n % 4 = 1 ∨ n % 4 = 2 ∨ n % 4 = 3 := by omega
  unfold placeOf
  rcases hk with hk | hk | hk | hk
  · rw [hk, loadLeft_0 o y a0 a1 b0 b1]
    refine ⟨_, rfl, congrArg some ?_⟩
    show word4 (byteAt y 0) (byteAt y 1) (byteAt y 2) (byteAt y 3) = _
    rw [word4_of _ _ _ _ (byteAt_bound _ _) (byteAt_bound _ _) (byteAt_bound _ _) (byteAt_bound _ _)]
    simp only [bA0, bA1, bA2, bA3]
    omega
  · rw [hk, loadLeft_1 o y a0 a1 b0 b1]
    refine ⟨_, rfl, congrArg some ?_⟩
    show word4 (byteAt y 1) (byteAt y 2) (byteAt y 3) (byteAt o 3) = _
    rw [word4_of _ _ _ _ (byteAt_bound _ _) (byteAt_bound _ _) (byteAt_bound _ _) (byteAt_bound _ _)]
    simp only [bA0, bA1, bA2, bA3]
    omega
  · rw [hk, loadLeft_2 o y a0 a1 b0 b1]
    refine ⟨_, rfl, congrArg some ?_⟩
    show word4 (byteAt y 2) (byteAt y 3) (byteAt o 2) (byteAt o 3) = _
    rw [word4_of _ _ _ _ (byteAt_bound _ _) (byteAt_bound _ _) (byteAt_bound _ _) (byteAt_bound _ _)]
    simp only [bA0, bA1, bA2, bA3]
    omega
  · rw [hk, loadLeft_3 o y a0 a1 b0 b1]
    refine ⟨_, rfl, congrArg some ?_⟩
    show word4 (byteAt y 3) (byteAt o 1) (byteAt o 2) (byteAt o 3) = _
    rw [word4_of _ _ _ _ (byteAt_bound _ _) (byteAt_bound _ _) (byteAt_bound _ _) (byteAt_bound _ _)]
    simp only [bA0, bA1, bA2, bA3]
    omega
theorem sameLoadRight (o y n : Int) (a0 : 0 ≤ o) (a1 : o ≤ 4294967295) (b0 : 0 ≤ y) (b1 : y ≤ 4294967295) : ∃ r, wide_LoadRight.f o y n = some r ∧ ferryref10_LoadRight.f o y n = some r := by
  have e : wide_LoadRight.f o y n = wide_LoadRight.f o y (n % 4) := by
    unfold wide_LoadRight.f
    rw [and3, and3, Int.emod_emod_of_dvd _ (Int.dvd_refl 4)]
  rw [e]
  unfold ferryref10_LoadRight.f
  rw [if_pos ⟨a0, a1, b0, b1⟩]
  have hk : n % 4 = 0 ∨ n % 4 = 1 ∨ n % 4 = 2 ∨ n % 4 = 3 := by omega
  unfold placeOf
  rcases hk with hk | hk | hk | hk
  · rw [hk, loadRight_0 o y a0 a1 b0 b1]
    refine ⟨_, rfl, congrArg some ?_⟩
    show word4 (byteAt o 0) (byteAt o 1) (byteAt o 2) (byteAt y 0) = _
    rw [word4_of _ _ _ _ (byteAt_bound _ _) (byteAt_bound _ _) (byteAt_bound _ _) (byteAt_bound _ _)]
    simp only [bA0, bA1, bA2, bA3]
    omega
  · rw [hk, loadRight_1 o y a0 a1 b0 b1]
    refine ⟨_, rfl, congrArg some ?_⟩
    show word4 (byteAt o 0) (byteAt o 1) (byteAt y 0) (byteAt y 1) = _
    rw [word4_of _ _ _ _ (byteAt_bound _ _) (byteAt_bound _ _) (byteAt_bound _ _) (byteAt_bound _ _)]
    simp only [bA0, bA1, bA2, bA3]
    omega
  · rw [hk, loadRight_2 o y a0 a1 b0 b1]
    refine ⟨_, rfl, congrArg some ?_⟩
    show word4 (byteAt o 0) (byteAt y 0) (byteAt y 1) (byteAt y 2) = _
    rw [word4_of _ _ _ _ (byteAt_bound _ _) (byteAt_bound _ _) (byteAt_bound _ _) (byteAt_bound _ _)]
    simp only [bA0, bA1, bA2, bA3]
    omega
  · rw [hk, loadRight_3 o y a0 a1 b0 b1]
    refine ⟨_, rfl, congrArg some ?_⟩
    show word4 (byteAt y 0) (byteAt y 1) (byteAt y 2) (byteAt y 3) = _
    rw [word4_of _ _ _ _ (byteAt_bound _ _) (byteAt_bound _ _) (byteAt_bound _ _) (byteAt_bound _ _)]
    simp only [bA0, bA1, bA2, bA3]
    omega
theorem sameStoreLeft (o y n : Int) (a0 : 0 ≤ o) (a1 : o ≤ 4294967295) (b0 : 0 ≤ y) (b1 : y ≤ 4294967295) : ∃ r, wide_StoreLeft.f o y n = some r ∧ ferryref10_StoreLeft.f o y n = some r := by
  have e : wide_StoreLeft.f o y n = wide_StoreLeft.f o y (n % 4) := by
    unfold wide_StoreLeft.f
    rw [and3, and3, Int.emod_emod_of_dvd _ (Int.dvd_refl 4)]
  rw [e]
  unfold ferryref10_StoreLeft.f
  rw [if_pos ⟨a0, a1, b0, b1⟩]
  have hk : n % 4 = 0 ∨ n % 4 = 1 ∨ n % 4 = 2 ∨ n % 4 = 3 := by omega
  unfold placeOf
  rcases hk with hk | hk | hk | hk
  · rw [hk, storeLeft_0 o y a0 a1 b0 b1]
    refine ⟨_, rfl, congrArg some ?_⟩
    show word4 (byteAt y 0) (byteAt y 1) (byteAt y 2) (byteAt y 3) = _
    rw [word4_of _ _ _ _ (byteAt_bound _ _) (byteAt_bound _ _) (byteAt_bound _ _) (byteAt_bound _ _)]
    simp only [bA0, bA1, bA2, bA3]
    omega
  · rw [hk, storeLeft_1 o y a0 a1 b0 b1]
    refine ⟨_, rfl, congrArg some ?_⟩
    show word4 (byteAt o 0) (byteAt y 0) (byteAt y 1) (byteAt y 2) = _
    rw [word4_of _ _ _ _ (byteAt_bound _ _) (byteAt_bound _ _) (byteAt_bound _ _) (byteAt_bound _ _)]
    simp only [bA0, bA1, bA2, bA3]
    omega
  · rw [hk, storeLeft_2 o y a0 a1 b0 b1]
    refine ⟨_, rfl, congrArg some ?_⟩
    show word4 (byteAt o 0) (byteAt o 1) (byteAt y 0) (byteAt y 1) = _
    rw [word4_of _ _ _ _ (byteAt_bound _ _) (byteAt_bound _ _) (byteAt_bound _ _) (byteAt_bound _ _)]
    simp only [bA0, bA1, bA2, bA3]
    omega
  · rw [hk, storeLeft_3 o y a0 a1 b0 b1]
    refine ⟨_, rfl, congrArg some ?_⟩
    show word4 (byteAt o 0) (byteAt o 1) (byteAt o 2) (byteAt y 0) = _
    rw [word4_of _ _ _ _ (byteAt_bound _ _) (byteAt_bound _ _) (byteAt_bound _ _) (byteAt_bound _ _)]
    simp only [bA0, bA1, bA2, bA3]
    omega
theorem sameStoreRight (o y n : Int) (a0 : 0 ≤ o) (a1 : o ≤ 4294967295) (b0 : 0 ≤ y) (b1 : y ≤ 4294967295) : ∃ r, wide_StoreRight.f o y n = some r ∧ ferryref10_StoreRight.f o y n = some r := by
  have e : wide_StoreRight.f o y n = wide_StoreRight.f o y (n % 4) := by
    unfold wide_StoreRight.f
    rw [and3, and3, Int.emod_emod_of_dvd _ (Int.dvd_refl 4)]
  rw [e]
  unfold ferryref10_StoreRight.f
  rw [if_pos ⟨a0, a1, b0, b1⟩]
  have hk : n % 4 = 0 ∨ n % 4 = 1 ∨ n % 4 = 2 ∨ n % 4 = 3 := by omega
  unfold placeOf
  rcases hk with hk | hk | hk | hk
  · rw [hk, storeRight_0 o y a0 a1 b0 b1]
    refine ⟨_, rfl, congrArg some ?_⟩
    show word4 (byteAt y 3) (byteAt o 1) (byteAt o 2) (byteAt o 3) = _
    rw [word4_of _ _ _ _ (byteAt_bound _ _) (byteAt_bound _ _) (byteAt_bound _ _) (byteAt_bound _ _)]
    simp only [bA0, bA1, bA2, bA3]
    omega
  · rw [hk, storeRight_1 o y a0 a1 b0 b1]
    refine ⟨_, rfl, congrArg some ?_⟩
    show word4 (byteAt y 2) (byteAt y 3) (byteAt o 2) (byteAt o 3) = _
    rw [word4_of _ _ _ _ (byteAt_bound _ _) (byteAt_bound _ _) (byteAt_bound _ _) (byteAt_bound _ _)]
    simp only [bA0, bA1, bA2, bA3]
    omega
  · rw [hk, storeRight_2 o y a0 a1 b0 b1]
    refine ⟨_, rfl, congrArg some ?_⟩
    show word4 (byteAt y 1) (byteAt y 2) (byteAt y 3) (byteAt o 3) = _
    rw [word4_of _ _ _ _ (byteAt_bound _ _) (byteAt_bound _ _) (byteAt_bound _ _) (byteAt_bound _ _)]
    simp only [bA0, bA1, bA2, bA3]
    omega
  · rw [hk, storeRight_3 o y a0 a1 b0 b1]
    refine ⟨_, rfl, congrArg some ?_⟩
    show word4 (byteAt y 0) (byteAt y 1) (byteAt y 2) (byteAt y 3) = _
    rw [word4_of _ _ _ _ (byteAt_bound _ _) (byteAt_bound _ _) (byteAt_bound _ _) (byteAt_bound _ _)]
    simp only [bA0, bA1, bA2, bA3]
    omega
theorem WideParts_pure : ferrylaw10_WideParts.Pure := by
  intro o y n h0 h1 h2
  obtain ⟨r1, e1, f1⟩ := sameLoadLeft o y n h0.1 h0.2 h1.1 h1.2
  obtain ⟨r2, e2, f2⟩ := sameLoadRight o y n h0.1 h0.2 h1.1 h1.2
  obtain ⟨r3, e3, f3⟩ := sameStoreLeft o y n h0.1 h0.2 h1.1 h1.2
  obtain ⟨r4, e4, f4⟩ := sameStoreRight o y n h0.1 h0.2 h1.1 h1.2
  unfold ferrylaw10_WideParts.f
  simp only [e1, f1, e2, f2, e3, f3, e4, f4, parts_awake, Option.bind_some, if_true]
end Go.Proofs.YtommcnppgodhgaaDoor.F
