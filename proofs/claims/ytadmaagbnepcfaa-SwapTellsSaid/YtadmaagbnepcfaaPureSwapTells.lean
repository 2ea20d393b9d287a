/- The pure statement of the law SwapTells, proved: numbers of bytes, and bytes of numbers, in both orders, are the document's. No condition. -/
import Derived.Test.YtadmaagbnepcfaaQSwapTells
import Derived.Test.YtadmaagbnepcfaaPSwap
namespace Go.Proofs.Ytadmaagbnepcfaa.F
open Go.RowKit Go.Proofs.YtadmaagbnepcfaaW.PrintWords Go.Proofs.YtadmaagbnepcfaaW.PrintLast Go.Proofs.YtadmaagbnepcfaaW.PrintMore
set_option linter.unusedVariables false

theorem bt_bys (s : ByteArray) (i : Nat) (h : i < s.size) : bt s (i : Int) = ((bys s false)[i]'(by rw [bys_length]; exact h)).toNat := by
  unfold bt
  rw [Int.toNat_natCast, dif_pos h]
  rfl
theorem beOf_step (n b : Int) (h0 : 0 ≤ n) (h1 : n < 256 ^ 7) (h2 : 0 ≤ b) (h3 : b ≤ 255) : IntKind.u64.wrap (IntKind.u64.wrap (n * 256) + IntKind.u64.wrap b) = n * 256 + b := by
  have e : (256 : Int) ^ 7 = 72057594037927936 := by rfl
  rw [e] at h1
  rw [u64w, u64w, u64w]
  omega
theorem pow_le7 (n : Nat) (h : n ≤ 7) : (256 : Int) ^ n ≤ 256 ^ 7 := by
  have z : 256 ^ n ≤ 256 ^ 7 := Nat.pow_le_pow_right (by omega) h
  have y := Int.ofNat_le.mpr z
  rw [Int.natCast_pow, Int.natCast_pow] at y
  exact y
theorem ref_Be_loop (s : ByteArray) (hs : s.size ≤ 8) : ∀ (d k i : Nat), i + d = s.size → d < k → ferryref01_Be.l0 k s (beOf ((bys s false).take i)) (i : Int) = some (beOf (bys s false))
  | 0, k, i, h, hk => by
    obtain ⟨k, rfl⟩ : ∃ m, k = m + 1 := ⟨k - 1, by omega⟩
    simp only [ferryref01_Be.l0]
    rw [if_neg (by omega), List.take_of_length_le (by rw [bys_length]; omega)]
  | d + 1, k, i, h, hk => by
    obtain ⟨k, rfl⟩ : ∃ m, k = m + 1 := ⟨k - 1, by omega⟩
    have hb := beOf_bound ((bys s false).take i)
    have hp := pow_le7 ((bys s false).take i).length (by rw [List.length_take]; omega)
    have hr := bt_range s (i : Int)
    have ih := ref_Be_loop s hs d k (i + 1) (by omega) (by omega)
    have hi : i < s.size := by omega
    simp only [ferryref01_Be.l0]
    rw [if_pos (by omega), if_pos (by omega), beOf_step _ _ hb.1 (by omega) hr.1 hr.2, w64_id (by omega) (by omega)]
    have e : beOf ((bys s false).take i) * 256 + bt s (i : Int) = beOf ((bys s false).take (i + 1)) := by
      rw [List.take_succ_eq_append_getElem (by rw [bys_length]; exact hi), beOf_snoc, bt_bys s i hi]
    rw [e]
    exact ih
theorem ref_Be_spec (s : ByteArray) (k : Nat) (hk : 9 ≤ k) : ferryref01_Be.f k s = swap_Be.f s := by
  unfold ferryref01_Be.f swap_Be.f swap_number.f
  by_cases h : (s.size : Int) > 8
  · rw [if_pos h, if_pos h]
    rfl
  · rw [if_neg h, if_neg h]
    exact ref_Be_loop s (by omega) s.size k 0 (by omega) (by omega)
theorem bys_back (s : ByteArray) : bys s true = (bys s false).reverse := by simp [bys]
theorem ref_Le_loop (s : ByteArray) (hs : s.size ≤ 8) : ∀ (d k : Nat), d ≤ s.size → d < k → ferryref01_Le.l0 k s (beOf ((bys s true).take (s.size - d))) ((d : Int) - 1) = some (beOf (bys s true))
  | 0, k, h, hk => by
    obtain ⟨k, rfl⟩ : ∃ m, k = m + 1 := ⟨k - 1, by omega⟩
    simp only [ferryref01_Le.l0]
    rw [if_neg (by omega), List.take_of_length_le (by rw [bys_length]; omega)]
  | d + 1, k, h, hk => by
    obtain ⟨k, rfl⟩ : ∃ m, k = m + 1 := ⟨k - 1, by omega⟩
    have hb := beOf_bound ((bys s true).take (s.size - (d + 1)))
    have hp := pow_le7 ((bys s true).take (s.size - (d + 1))).length (by rw [List.length_take]; omega)
    have e0 : ((d + 1 : Nat) : Int) - 1 = (d : Int) := by omega
    have hr := bt_range s (d : Int)
    have ih := ref_Le_loop s hs d k (by omega) (by omega)
    simp only [ferryref01_Le.l0]
    rw [e0, if_pos (by omega), if_pos (by omega), if_pos (by omega), beOf_step _ _ hb.1 (by omega) hr.1 hr.2, w64_id (by omega) (by omega)]
    have e : beOf ((bys s true).take (s.size - (d + 1))) * 256 + bt s (d : Int) = beOf ((bys s true).take (s.size - d)) := by
      rw [show s.size - d = (s.size - (d + 1)) + 1 by omega, List.take_succ_eq_append_getElem (by rw [bys_length]; omega), beOf_snoc, bt_bys s d (by omega)]
      congr 3
      simp only [bys_back, List.getElem_reverse, bys_length]
      congr 1
      omega
    rw [e]
    exact ih
theorem ref_Le_spec (s : ByteArray) (k : Nat) (hk : 9 ≤ k) : ferryref01_Le.f k s = swap_Le.f s := by
  unfold ferryref01_Le.f swap_Le.f swap_number.f
  by_cases h : (s.size : Int) > 8
  · rw [if_pos h, if_pos h]
    rfl
  · rw [if_neg h, if_neg h, w64_id (by omega) (by omega)]
    have := ref_Le_loop s (by omega) s.size k (by omega) (by omega)
    rw [Nat.sub_self, List.take_zero] at this
    exact this

/-- a number's bytes as numbers, the first j of them there, the others 0: the lowest first, and the highest first -/
def leI (v : Int) (n j : Nat) : List Int := (List.range n).map (fun i => if i < j then v / 256 ^ i % 256 else 0)
def beI (v : Int) (n j : Nat) : List Int := (List.range n).map (fun i => if n - 1 - i < j then v / 256 ^ (n - 1 - i) % 256 else 0)
theorem leI_zero (v : Int) (n : Nat) : leI v n 0 = List.replicate n 0 := by
  apply List.ext_getElem (by simp [leI])
  intro i h1 h2
  simp [leI]
theorem beI_zero (v : Int) (n : Nat) : beI v n 0 = List.replicate n 0 := by
  apply List.ext_getElem (by simp [beI])
  intro i h1 h2
  simp [beI]
theorem leI_set (v : Int) (n j : Nat) : (leI v n j).set j (v / 256 ^ j % 256) = leI v n (j + 1) := by
  apply List.ext_getElem (by simp [leI])
  intro i h1 h2
  simp only [leI, List.getElem_set, List.getElem_map, List.getElem_range]
  by_cases e : j = i
  · subst e
    simp
  · rw [if_neg e]
    by_cases hl : i < j
    · rw [if_pos hl, if_pos (by omega)]
    · rw [if_neg hl, if_neg (by omega)]
theorem beI_set (v : Int) (n j : Nat) (hj : j < n) : (beI v n j).set (n - 1 - j) (v / 256 ^ j % 256) = beI v n (j + 1) := by
  apply List.ext_getElem (by simp [beI])
  intro i h1 h2
  have hi : i < n := by simpa [beI] using h2
  simp only [beI, List.getElem_set, List.getElem_map, List.getElem_range]
  by_cases e : n - 1 - j = i
  · subst e
    rw [if_pos rfl, if_pos (by omega), show n - 1 - (n - 1 - j) = j by omega]
  · rw [if_neg e]
    by_cases hl : n - 1 - i < j
    · rw [if_pos hl, if_pos (by omega)]
    · rw [if_neg hl, if_neg (by omega)]
theorem byte_of (v : Int) (i : Nat) : UInt8.ofNat ((v / 256 ^ i % 256).toNat) = UInt8.ofNat (v / 256 ^ i % 256).toNat := rfl
theorem strOf_leI (v : Int) (n : Nat) : strOfNums (leI v n n) = ⟨(leBytes v n).toArray⟩ := by
  unfold strOfNums leI leBytes
  congr 2
  rw [List.map_map]
  apply List.map_congr_left
  intro i hi
  have := List.mem_range.1 hi
  simp [this]
theorem strOf_beI (v : Int) (n : Nat) : strOfNums (beI v n n) = ⟨(leBytes v n).reverse.toArray⟩ := by
  unfold strOfNums beI leBytes
  congr 2
  apply List.ext_getElem (by simp)
  intro i h1 h2
  have hi : i < n := by simpa using h2
  have h : n - 1 - i < n := by omega
  simp [h]
theorem byte_step (v : Int) (j : Nat) (h0 : 0 ≤ v) (h1 : v ≤ 18446744073709551615) : Int.tmod (v / 256 ^ j) 256 % 256 = v / 256 ^ j % 256 ∧ IntKind.u64.wrap (Int.tdiv (v / 256 ^ j) 256) = v / 256 ^ (j + 1) := by
  have hq : 0 ≤ v / 256 ^ j := Int.ediv_nonneg h0 (Int.pow_nonneg (by decide))
  have hq1 : v / 256 ^ j ≤ v := Int.ediv_le_self _ h0
  rw [Int.tmod_eq_emod_of_nonneg hq, Int.tdiv_eq_ediv_of_nonneg hq, div256, u64w]
  have hq2 : 0 ≤ v / 256 ^ (j + 1) := Int.ediv_nonneg h0 (Int.pow_nonneg (by decide))
  have hq3 : v / 256 ^ (j + 1) ≤ v := Int.ediv_le_self _ h0
  omega
theorem ref_PutLe_loop (v : Int) (n : Nat) (h0 : 0 ≤ v) (h1 : v ≤ 18446744073709551615) (hn : n ≤ 8) : ∀ (d k j : Nat), j + d = n → d < k → ferryref01_PutLe.l0 k (v / 256 ^ j) (n : Int) (leI v n j) (j : Int) = some (strOfNums (leI v n n))
  | 0, k, j, h, hk => by
    obtain ⟨k, rfl⟩ : ∃ m, k = m + 1 := ⟨k - 1, by omega⟩
    obtain rfl : j = n := by omega
    simp only [ferryref01_PutLe.l0]
    rw [if_neg (by omega)]
  | d + 1, k, j, h, hk => by
    obtain ⟨k, rfl⟩ : ∃ m, k = m + 1 := ⟨k - 1, by omega⟩
    have hs := byte_step v j h0 h1
    have ih := ref_PutLe_loop v n h0 h1 hn d k (j + 1) (by omega) (by omega)
    simp only [ferryref01_PutLe.l0]
    rw [if_pos (by omega), if_pos (by omega), if_pos (by simp [leI]; omega), hs.1, hs.2, w64_id (by omega) (by omega), Int.toNat_natCast, leI_set]
    exact ih
theorem ref_PutBe_loop (v : Int) (n : Nat) (h0 : 0 ≤ v) (h1 : v ≤ 18446744073709551615) (hn : n ≤ 8) : ∀ (d k j : Nat), j + d = n → d < k → ferryref01_PutBe.l0 k (v / 256 ^ j) (beI v n j) ((d : Int) - 1) = some (strOfNums (beI v n n))
  | 0, k, j, h, hk => by
    obtain ⟨k, rfl⟩ : ∃ m, k = m + 1 := ⟨k - 1, by omega⟩
    obtain rfl : j = n := by omega
    simp only [ferryref01_PutBe.l0]
    rw [if_neg (by omega)]
  | d + 1, k, j, h, hk => by
    obtain ⟨k, rfl⟩ : ∃ m, k = m + 1 := ⟨k - 1, by omega⟩
    have hs := byte_step v j h0 h1
    have ih := ref_PutBe_loop v n h0 h1 hn d k (j + 1) (by omega) (by omega)
    have e0 : ((d + 1 : Nat) : Int) - 1 = (d : Int) := by omega
    simp only [ferryref01_PutBe.l0]
    rw [e0, if_pos (by omega), if_pos (by omega), if_pos (by simp [beI]; omega), hs.1, hs.2, w64_id (by omega) (by omega), Int.toNat_natCast, show d = n - 1 - j by omega, beI_set v n j (by omega), show n - 1 - j = d by omega]
    exact ih
theorem ref_PutLe_spec (v n : Int) (k : Nat) (hk : 11 ≤ k) (h0 : 0 ≤ v) (h1 : v ≤ 18446744073709551615) : ferryref01_PutLe.f k v n = swap_PutLe.f v n := by
  obtain ⟨k, rfl⟩ : ∃ m, k = m + 1 := ⟨k - 1, by omega⟩
  unfold ferryref01_PutLe.f swap_PutLe.f
  by_cases hn : n < 0
  · rw [if_pos hn, if_pos hn]
    simp only [ferryref01_PutLe.j0]
    rfl
  · rw [if_neg hn, if_neg hn]
    simp only [ferryref01_PutLe.j0]
    by_cases hn2 : n > 8
    · rw [if_pos hn2, if_pos (decide_eq_true hn2)]
    · rw [if_neg hn2, if_neg (by rw [decide_eq_true_eq]; exact hn2), if_pos (by omega), if_pos (by omega)]
      obtain ⟨m, rfl⟩ : ∃ m : Nat, n = m := ⟨n.toNat, by omega⟩
      rw [Int.toNat_natCast]
      have := ref_PutLe_loop v m h0 h1 (by omega) m k 0 (by omega) (by omega)
      rw [leI_zero, Int.pow_zero, Int.ediv_one] at this
      rw [← strOf_leI]
      exact this
theorem ref_PutBe_spec (v n : Int) (k : Nat) (hk : 11 ≤ k) (h0 : 0 ≤ v) (h1 : v ≤ 18446744073709551615) : ferryref01_PutBe.f k v n = swap_PutBe.f v n := by
  obtain ⟨k, rfl⟩ : ∃ m, k = m + 1 := ⟨k - 1, by omega⟩
  unfold ferryref01_PutBe.f swap_PutBe.f swap_PutLe.f
  by_cases hn : n < 0
  · rw [if_pos hn, if_pos hn]
    simp only [ferryref01_PutBe.j0]
    rfl
  · rw [if_neg hn, if_neg hn]
    simp only [ferryref01_PutBe.j0]
    by_cases hn2 : n > 8
    · rw [if_pos hn2, if_pos (decide_eq_true hn2)]
      rfl
    · rw [if_neg hn2, if_neg (by rw [decide_eq_true_eq]; exact hn2), if_pos (by omega), if_pos (by omega)]
      obtain ⟨m, rfl⟩ : ∃ m : Nat, n = m := ⟨n.toNat, by omega⟩
      rw [Int.toNat_natCast]
      have := ref_PutBe_loop v m h0 h1 (by omega) m k 0 (by omega) (by omega)
      rw [beI_zero, Int.pow_zero, Int.ediv_one] at this
      rw [w64_id (by omega) (by omega), this, strOf_beI]
      simp [bys]
theorem SwapTells_pure : ferrylaw01_SwapTells.Pure := by
  intro s v n ws wv wn
  refine ⟨20, ?_⟩
  have haw : ferrylaw01_awake.f = some true := by decide +kernel
  unfold ferrylaw01_SwapTells.f
  rw [haw]
  by_cases hs : (s.size : Int) > 1000
  · rw [if_pos hs]
    rfl
  · rw [if_neg hs, ref_Be_spec s 20 (by omega), ref_Le_spec s 20 (by omega), ref_PutBe_spec v n 20 (by omega) wv.1 wv.2, ref_PutLe_spec v n 20 (by omega) wv.1 wv.2]
    obtain ⟨a, ha⟩ : ∃ a, swap_Be.f s = some a := by
      unfold swap_Be.f swap_number.f
      split <;> exact ⟨_, rfl⟩
    obtain ⟨b, hb⟩ : ∃ a, swap_Le.f s = some a := by
      unfold swap_Le.f swap_number.f
      split <;> exact ⟨_, rfl⟩
    obtain ⟨c, hc, _⟩ := putLe_some v n
    have hd : swap_PutBe.f v n = some ⟨(bys c true).toArray⟩ := by
      unfold swap_PutBe.f
      rw [hc]
      rfl
    rw [ha, hb, hc, hd]
    simp
end Go.Proofs.Ytadmaagbnepcfaa.F
