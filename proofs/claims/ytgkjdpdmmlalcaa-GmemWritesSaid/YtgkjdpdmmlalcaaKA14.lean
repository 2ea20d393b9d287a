import Derived.Test.YtgkjdpdmmlalcaaKZF0
import Derived.Test.YtgkjdpdmmlalcaaKA0
import Derived.Test.YtgkjdpdmmlalcaaKA2HHost0
import Derived.Test.YtgkjdpdmmlalcaaKA3
import Derived.Test.YtgkjdpdmmlalcaaKA5
import Derived.Test.YtgkjdpdmmlalcaaKA8HHost6
import Derived.Test.YtgkjdpdmmlalcaaKA10PHost6
import Derived.Test.YtgkjdpdmmlalcaaKA12PHost7
import Derived.Test.YtgkjdpdmmlalcaaKA13FHostLoad
section
namespace Go.Proofs.Ytgkjdpdmmlalcaa.F
open Go.RowKit Go.Shelf Go.Proofs.YtgkjdpdmmlalcaaW.PrintWords Go.Proofs.YtgkjdpdmmlalcaaW.PrintLast Go.Proofs.YtgkjdpdmmlalcaaW.PrintMore
set_option linter.unusedVariables false
set_option linter.unusedSimpArgs false
def loadS (l : List SM) (m : List SC) (a n : Int) : Int × Int × Int :=
  if n < 1 ∨ n > 8 then (0, 0, 0) else if (askS l a 1 n.toNat 0).1 = 0 then (((leN n.toNat (fun i => pk m (a.toNat + i)) : Nat) : Int), 0, 0) else (0, (askS l a 1 n.toNat 0).1, (askS l a 1 n.toNat 0).2)
theorem andNot7_u64 {a : Nat} (h : a < 18446744073709551616) : Go.bits .andNot .u64 (a : Int) 7 = ((a - a % 8 : Nat) : Int) := by
  have := without64 (x := (a : Int)) 3 0 (by decide) (by omega) (by omega)
  rw [show ((2 : Int) ^ 3 - 1) * 2 ^ 0 = 7 by decide] at this
  rw [this]
  omega
theorem and7_off {a : Nat} (h : a < 18446744073709551616) : IntKind.u64.wrap (8 * Go.bits .and .u64 (a : Int) 7) = ((8 * (a % 8) : Nat) : Int) := by
  rw [and7_u64 (by omega) (by omega), u64w]
  omega
theorem mask_bytes {n : Nat} (h1 : 1 ≤ n) (h8 : n ≤ 8) : IntKind.u64.wrap (IntKind.u64.wrap (shl .u64 1 (wrap64 (wrap64 (8 * (n : Int)) - 1)) * 2) - 1) = ((256 ^ n - 1 : Nat) : Int) := by
  rcases (by omega : n = 1 ∨ n = 2 ∨ n = 3 ∨ n = 4 ∨ n = 5 ∨ n = 6 ∨ n = 7 ∨ n = 8) with rfl | rfl | rfl | rfl | rfl | rfl | rfl | rfl <;> decide +kernel
theorem and_mask_bytes {v n : Nat} (hv : v < 256 ^ 8) (h8 : n ≤ 8) : Go.bits .and .u64 (v : Int) ((256 ^ n - 1 : Nat) : Int) = ((v % 256 ^ n : Nat) : Int) := by
  rw [p256_8] at hv
  have hp := p256_le h8
  have hpos := pos256 n
  rw [(bits_nat64 v (256 ^ n - 1) (by omega) (by omega)).1, ← p256, Nat.and_two_pow_sub_one_eq_mod]
def joinN (w0 w1 o : Nat) : Nat := w0 / 256 ^ o + 256 ^ (8 - o) * (w1 % 256 ^ o)
theorem joinN_lt {w0 w1 o : Nat} (h0 : w0 < 256 ^ 8) (ho : o ≤ 8) : joinN w0 w1 o < 256 ^ 8 := by
  unfold joinN
  have h1 : w0 / 256 ^ o < 256 ^ (8 - o) := by
    rw [Nat.div_lt_iff_lt_mul (pos256 _), ← Nat.pow_add]
    rwa [show 8 - o + o = 8 by omega]
  have h2 := Nat.mod_lt w1 (pos256 o)
  have h3 : 256 ^ (8 - o) * (w1 % 256 ^ o) + 256 ^ (8 - o) ≤ 256 ^ (8 - o) * 256 ^ o := by
    rw [← Nat.mul_succ]
    exact Nat.mul_le_mul_left _ h2
  rw [← Nat.pow_add, show 8 - o + o = 8 by omega] at h3
  omega
theorem byteAt_joinN {w0 w1 o : Nat} (h0 : w0 < 256 ^ 8) (ho : o ≤ 8) (k : Nat) (hk : k < 8) : byteAt (joinN w0 w1 o) k = if k < 8 - o then byteAt w0 (o + k) else byteAt w1 (k - (8 - o)) := by
  have h1 : w0 / 256 ^ o < 256 ^ (8 - o) := by
    rw [Nat.div_lt_iff_lt_mul (pos256 _), ← Nat.pow_add]
    rwa [show 8 - o + o = 8 by omega]
  unfold joinN
  rw [byteAt_join h1, byteAt_div]
  by_cases h : k < 8 - o
  · rw [if_pos h, if_pos h]
  rw [if_neg h, if_neg h, byteAt_mod _ _ _ (by omega)]
theorem or_join {w0 w1 o : Nat} (h0 : w0 < 256 ^ 8) (h1 : w1 < 256 ^ 8) (o0 : 0 < o) (ho : o ≤ 8) : Go.bits .or .u64 ((w0 / 256 ^ o : Nat) : Int) (shl .u64 (w1 : Int) ((8 * (8 - o) : Nat) : Int)) = ((joinN w0 w1 o : Nat) : Int) := by
  have e : w1 * 256 ^ (8 - o) % 256 ^ 8 = 256 ^ (8 - o) * (w1 % 256 ^ o) := by
    have h8 : (256 : Nat) ^ 8 = 256 ^ (8 - o) * 256 ^ o := by rw [← Nat.pow_add]; congr 1; omega
    rw [h8, Nat.mul_comm w1, Nat.mul_mod_mul_left]
  rw [shl_bytes _ _ (by omega), e]
  have hj := joinN_lt (w1 := w1) h0 ho
  unfold joinN at hj ⊢
  have hlt : w0 / 256 ^ o < 256 ^ (8 - o) := by
    rw [Nat.div_lt_iff_lt_mul (pos256 _), ← Nat.pow_add]
    rwa [show 8 - o + o = 8 by omega]
  rw [p256_8] at hj
  have hpe : ((2 : Int) ^ (8 * (8 - o))) = ((256 ^ (8 - o) : Nat) : Int) := by
    rw [← p256]
    simp
  have hm0 : ((256 ^ (8 - o) * (w1 % 256 ^ o) : Nat) : Int) % 2 ^ (8 * (8 - o)) = 0 := by rw [hpe, Int.natCast_mul]; exact Int.mul_emod_right _ _
  generalize 256 ^ (8 - o) * (w1 % 256 ^ o) = Q at hm0 hj ⊢
  generalize w0 / 256 ^ o = R at hlt hj ⊢
  rw [bits_or_comm, join64 (8 * (8 - o)) (by omega) (by omega) hm0 (by omega) (by rw [hpe]; omega) (by omega)]
  omega
theorem load_bytes {m : List SC} (h : CellsH m) {a n : Nat} (h8 : n ≤ 8) : joinN (wN m (a - a % 8)) (if a % 8 = 0 then 0 else wN m (a - a % 8 + 8)) (a % 8) % 256 ^ n = leN n (fun i => pk m (a + i)) := by
  have ho : a % 8 < 8 := Nat.mod_lt _ (by decide)
  have e := leN_bytes n 0 (joinN (wN m (a - a % 8)) (if a % 8 = 0 then 0 else wN m (a - a % 8 + 8)) (a % 8))
  rw [Nat.pow_zero, Nat.div_one] at e
  rw [← e]
  refine leN_congr (fun i hi => ?_)
  rw [Nat.zero_add, byteAt_joinN (h.wN_lt _) (by omega) i (by omega)]
  by_cases hc : i < 8 - a % 8
  · rw [if_pos hc, ← pk_at m (a := a - a % 8) (by omega) (by omega)]
    congr 1
    omega
  rw [if_neg hc, if_neg (by omega), ← pk_at m (a := a - a % 8 + 8) (by omega) (by omega)]
  congr 1
  omega
theorem host_Load_spec (l : List SM) {m : List SC} (h : CellsH m) (hr : Rises mpK l) (hl : l.length ≤ 1000000) (hm : m.length ≤ 1000000) {a n : Int} (a0 : 0 ≤ a) (a1 : a < 18446744073709551616) (k : Nat) (hk : 40 < k) :
    host_Load.f k l m a n = some (loadS l m a n) := by
  obtain ⟨k, rfl⟩ : ∃ q, k = q + 1 := ⟨k - 1, by omega⟩
  unfold host_Load.f loadS
  by_cases h1 : n < 1
  · rw [if_pos h1, if_pos (Or.inl h1)]
    rfl
  rw [if_neg h1]
  by_cases h2 : n > 8
  · rw [decide_eq_true h2, if_pos (Or.inr h2)]
    rfl
  obtain ⟨N, rfl⟩ : ∃ N : Nat, n = (N : Int) := ⟨n.toNat, by omega⟩
  obtain ⟨A, rfl⟩ : ∃ N : Nat, a = (N : Int) := ⟨a.toNat, by omega⟩
  have a1' : A < 18446744073709551616 := by omega
  rw [decide_eq_false h2, host_Load.j0, if_neg (show ¬ (false = true) by decide), if_neg (by omega), host_ask_spec l m hl hr 1 N (by omega) a0 a1 k (by omega), Option.bind_some, Int.toNat_natCast, Int.toNat_natCast]
  by_cases h3 : (askS l (A : Int) 1 N 0).1 = 0
  · rw [if_pos h3, if_pos h3]
    obtain ⟨_, h4⟩ := askS_ok a0 a1 (Int.le_refl 0) (by omega) h3
    have h5 := (h4 ((N : Int) - 1) (by omega) (by omega)).1
    have ho : A % 8 < 8 := Nat.mod_lt _ (by decide)
    have hw : wrap64 (wrap64 (8 * (N : Int)) - 1) = 8 * (N : Int) - 1 := by unfold wrap64; omega
    have hmk := mask_bytes (n := N) (by omega) (by omega)
    rw [andNot7_u64 a1', and7_off a1', host_word_spec l m hm h.mr, Option.bind_some, if_pos (show (0 : Int) ≤ ((8 * (A % 8) : Nat) : Int) by omega), h.wN_eq, shr_bytes _ _ (by omega), hmk]
    have hfin := load_bytes h (a := A) (n := N) (by omega)
    by_cases hs : ((8 * (A % 8) : Nat) : Int) > 0
    · have e8 : IntKind.u64.wrap (((A - A % 8 : Nat) : Int) + 8) = ((A - A % 8 + 8 : Nat) : Int) ∨ (A - A % 8 + 8 = 18446744073709551616 ∧ IntKind.u64.wrap (((A - A % 8 : Nat) : Int) + 8) = 0) := by
        rw [u64w]
        omega
      have es : IntKind.u64.wrap (64 - ((8 * (A % 8) : Nat) : Int)) = ((8 * (8 - A % 8) : Nat) : Int) := by rw [u64w]; omega
      rw [if_pos hs, host_word_spec l m hm h.mr, Option.bind_some, es, if_pos (show (0 : Int) ≤ ((8 * (8 - A % 8) : Nat) : Int) by omega), hw, if_pos (show (0 : Int) ≤ 8 * (N : Int) - 1 by omega)]
      rw [if_neg (show ¬ A % 8 = 0 by omega)] at hfin
      rcases e8 with e8 | ⟨e9, e8⟩
      · rw [e8, h.wN_eq, or_join (h.wN_lt _) (h.wN_lt _) (by omega) (by omega), and_mask_bytes (joinN_lt (h.wN_lt _) (by omega)) (by omega), hfin]
      · rw [e8, show (0 : Int) = ((0 : Nat) : Int) from rfl, h.wN_eq, or_join (h.wN_lt _) (h.wN_lt _) (by omega) (by omega), and_mask_bytes (joinN_lt (h.wN_lt _) (by omega)) (by omega)]
        have hN : N ≤ 8 - A % 8 := by omega
        congr 3
        rw [← hfin]
        have b : ∀ w1, joinN (wN m (A - A % 8)) w1 (A % 8) % 256 ^ N = leN N (fun i => byteAt (wN m (A - A % 8)) (A % 8 + i)) := fun w1 => by
          have e := leN_bytes N 0 (joinN (wN m (A - A % 8)) w1 (A % 8))
          rw [Nat.pow_zero, Nat.div_one] at e
          rw [← e]
          refine leN_congr (fun i hi => ?_)
          rw [Nat.zero_add, byteAt_joinN (h.wN_lt _) (by omega) i (by omega), if_pos (by omega)]
        rw [b, b]
    have hz : A % 8 = 0 := by omega
    rw [if_neg hs, hw, if_pos (show (0 : Int) ≤ 8 * (N : Int) - 1 by omega)]
    rw [if_pos hz] at hfin
    unfold joinN at hfin
    rw [Nat.zero_mod, Nat.mul_zero, Nat.add_zero] at hfin
    rw [and_mask_bytes (by have := h.wN_lt (A - A % 8); have := Nat.div_le_self (wN m (A - A % 8)) (256 ^ (A % 8)); omega) (by omega), hfin]
  rw [if_neg h3, if_neg h3]
end Go.Proofs.Ytgkjdpdmmlalcaa.F
end
section
namespace Go.Proofs.Ytgkjdpdmmlalcaa.F
open Go.RowKit Go.Shelf Go.Proofs.YtgkjdpdmmlalcaaW.PrintWords Go.Proofs.YtgkjdpdmmlalcaaW.PrintLast Go.Proofs.YtgkjdpdmmlalcaaW.PrintMore
set_option linter.unusedVariables false
set_option linter.unusedSimpArgs false
theorem stMask_eq {n : Nat} (h1 : 1 ≤ n) (h8 : n ≤ 8) : stMask (n : Int) = ((256 ^ n - 1 : Nat) : Int) := by
  rcases (by omega : n = 1 ∨ n = 2 ∨ n = 3 ∨ n = 4 ∨ n = 5 ∨ n = 6 ∨ n = 7 ∨ n = 8) with rfl | rfl | rfl | rfl | rfl | rfl | rfl | rfl <;> decide +kernel
theorem mask_low {n o : Nat} (h8 : n ≤ 8) (ho : o < 8) : (256 ^ n - 1) * 256 ^ o % 256 ^ 8 = (256 ^ min n (8 - o) - 1) * 256 ^ o := by
  rcases (by omega : o = 0 ∨ o = 1 ∨ o = 2 ∨ o = 3 ∨ o = 4 ∨ o = 5 ∨ o = 6 ∨ o = 7) with rfl | rfl | rfl | rfl | rfl | rfl | rfl | rfl <;>
  rcases (by omega : n = 0 ∨ n = 1 ∨ n = 2 ∨ n = 3 ∨ n = 4 ∨ n = 5 ∨ n = 6 ∨ n = 7 ∨ n = 8) with rfl | rfl | rfl | rfl | rfl | rfl | rfl | rfl | rfl <;> decide +kernel
theorem mask_high {n o : Nat} (h1 : 1 ≤ n) (h8 : n ≤ 8) (ho : o < 8) : ((256 ^ n - 1 : Nat) : Int) / 2 / 2 ^ min (IntKind.u64.wrap (63 - ((8 * o : Nat) : Int))).toNat 64 = ((256 ^ (n - (8 - o)) - 1 : Nat) : Int) := by
  rcases (by omega : o = 0 ∨ o = 1 ∨ o = 2 ∨ o = 3 ∨ o = 4 ∨ o = 5 ∨ o = 6 ∨ o = 7) with rfl | rfl | rfl | rfl | rfl | rfl | rfl | rfl <;>
  rcases (by omega : n = 1 ∨ n = 2 ∨ n = 3 ∨ n = 4 ∨ n = 5 ∨ n = 6 ∨ n = 7 ∨ n = 8) with rfl | rfl | rfl | rfl | rfl | rfl | rfl | rfl <;> decide +kernel
theorem val_low {v o : Nat} (ho : o ≤ 8) : v * 256 ^ o % 256 ^ 8 = v % 256 ^ (8 - o) * 256 ^ o := by
  have h8 : (256 : Nat) ^ 8 = 256 ^ (8 - o) * 256 ^ o := by rw [← Nat.pow_add]; congr 1; omega
  rw [h8, Nat.mul_mod_mul_right]
theorem mask_pos {n : Nat} (h : 0 < n) : 256 ^ n - 1 ≠ (0 : Nat) := by
  have : 256 ^ 1 ≤ (256 : Nat) ^ n := Nat.pow_le_pow_right (by decide) h
  omega
theorem mod_min {v n k : Nat} : v % 256 ^ n % 256 ^ k = v % 256 ^ min n k := by
  rcases Nat.le_total n k with h | h
  · rw [Nat.min_eq_left h, Nat.mod_eq_of_lt]
    exact Nat.lt_of_lt_of_le (Nat.mod_lt _ (pos256 n)) (Nat.pow_le_pow_right (by decide) h)
  · rw [Nat.min_eq_right h, Nat.mod_mod_of_dvd]
    exact Nat.pow_dvd_pow 256 h
theorem stCells_spec (l : List SM) {m : List SC} (h : CellsH m) (hm : m.length ≤ 999000) {a n v : Nat} (n1 : 1 ≤ n) (n8 : n ≤ 8) (ha : a + n ≤ 18446744073709551616) (hv : v < 18446744073709551616) :
    stCells l m ((a - a % 8 : Nat) : Int) ((8 * (a % 8) : Nat) : Int) ((256 ^ n - 1 : Nat) : Int) ((256 ^ (n - (8 - a % 8)) - 1 : Nat) : Int) ((v % 256 ^ n : Nat) : Int) = some (pokes m a v n) := by
  have ho : a % 8 < 8 := Nat.mod_lt _ (by decide)
  have e1 : shl .u64 ((256 ^ n - 1 : Nat) : Int) ((8 * (a % 8) : Nat) : Int) = (((256 ^ min n (8 - a % 8) - 1) * 256 ^ (a % 8) : Nat) : Int) := by
    rw [shl_bytes _ _ (by omega), mask_low n8 ho]
  have e2 : shl .u64 ((v % 256 ^ n : Nat) : Int) ((8 * (a % 8) : Nat) : Int) = ((v % 256 ^ min n (8 - a % 8) * 256 ^ (a % 8) : Nat) : Int) := by
    rw [shl_bytes _ _ (by omega), val_low (by omega), mod_min]
  have hst1 : st1 m ((a - a % 8 : Nat) : Int) ((8 * (a % 8) : Nat) : Int) ((256 ^ n - 1 : Nat) : Int) ((v % 256 ^ n : Nat) : Int) (wrd m ((a - a % 8 : Nat) : Int)) = setL ((a - a % 8 : Nat) : Int) ((putIn (wN m (a - a % 8)) (a % 8) (min n (8 - a % 8)) (v % 256 ^ min n (8 - a % 8)) : Nat) : Int) m := by
    unfold st1
    rw [e1, e2, h.wN_eq, put64 (h.wN_lt _) (Nat.mod_lt _ (pos256 _)) (by omega)]
  have hc1 : CellsH (setL ((a - a % 8 : Nat) : Int) ((putIn (wN m (a - a % 8)) (a % 8) (min n (8 - a % 8)) (v % 256 ^ min n (8 - a % 8)) : Nat) : Int) m) := h.putW (by omega) (by omega) (by omega)
  have hp1 := fun x => pk_putW h (a := a - a % 8) (o := a % 8) (n := min n (8 - a % 8)) (v := v % 256 ^ min n (8 - a % 8)) (by omega) (by omega) x
  have hD := pk_pokes h (v := v) ha
  have hC := CellsH.pokes h (v := v) ha
  unfold stCells
  rw [host_word_spec l m (by omega) h.mr, Option.bind_some, hst1]
  by_cases hh : n - (8 - a % 8) = 0
  · rw [hh, if_neg (by simp)]
    congr 1
    refine pk_ext hc1 hC (fun x => ?_)
    rw [hp1, hD]
    by_cases hx : a ≤ x ∧ x < a + n
    · rw [if_pos (by omega), if_pos hx, show x - (a - a % 8 + a % 8) = x - a by omega, byteAt_mod _ _ _ (by omega)]
    rw [if_neg (by omega), if_neg hx]
  have hne := mask_pos (n := n - (8 - a % 8)) (by omega)
  rw [if_pos ⟨by omega, by omega⟩, host_word_spec l m (by omega) h.mr, Option.bind_some]
  congr 1
  have e8 : IntKind.u64.wrap (((a - a % 8 : Nat) : Int) + 8) = ((a - a % 8 + 8 : Nat) : Int) := by rw [u64w]; omega
  have es : min (IntKind.u64.wrap (64 - ((8 * (a % 8) : Nat) : Int))).toNat 64 = 8 * (8 - a % 8) := by rw [u64w]; omega
  have hq : v % 256 ^ n / 256 ^ (8 - a % 8) < 256 ^ (n - (8 - a % 8)) := by
    rw [Nat.div_lt_iff_lt_mul (pos256 _), ← Nat.pow_add, show n - (8 - a % 8) + (8 - a % 8) = n by omega]
    exact Nat.mod_lt _ (pos256 _)
  have e3 : ((v % 256 ^ n : Nat) : Int) / 2 ^ (8 * (8 - a % 8)) = ((v % 256 ^ n / 256 ^ (8 - a % 8) * 256 ^ 0 : Nat) : Int) := by
    rw [Nat.pow_zero, Nat.mul_one, ← p256 (8 - a % 8)]
    simp
  have e4 : ((256 ^ (n - (8 - a % 8)) - 1 : Nat) : Int) = (((256 ^ (n - (8 - a % 8)) - 1) * 256 ^ 0 : Nat) : Int) := by
    rw [Nat.pow_zero, Nat.mul_one]
  have ew : wrd m ((a - a % 8 + 8 : Nat) : Int) = ((wN (setL ((a - a % 8 : Nat) : Int) ((putIn (wN m (a - a % 8)) (a % 8) (min n (8 - a % 8)) (v % 256 ^ min n (8 - a % 8)) : Nat) : Int) m) (a - a % 8 + 8) : Nat) : Int) := by
    rw [wN_setL h, if_neg (by omega), h.wN_eq]
  unfold st2
  rw [e8, es, e3, e4, ew, put64 (hc1.wN_lt _) hq (by omega)]
  refine pk_ext (hc1.putW (by omega) (by omega) (by omega)) hC (fun x => ?_)
  rw [pk_putW hc1 (by omega) (by omega), hp1, hD]
  by_cases hx : a ≤ x ∧ x < a + n
  · rw [if_pos hx]
    by_cases h2 : a - a % 8 + 8 + 0 ≤ x ∧ x < a - a % 8 + 8 + 0 + (n - (8 - a % 8))
    · rw [if_pos h2, byteAt_div, byteAt_mod _ _ _ (by omega)]
      congr 1
      omega
    rw [if_neg h2, if_pos (by omega), show x - (a - a % 8 + a % 8) = x - a by omega, byteAt_mod _ _ _ (by omega)]
  rw [if_neg (by omega), if_neg (by omega), if_neg hx]
theorem host_Store_spec (l : List SM) {m : List SC} (h : CellsH m) (hr : Rises mpK l) (hl : l.length ≤ 1000000) (hm : m.length ≤ 999000) {a n v : Int} (a0 : 0 ≤ a) (a1 : a < 18446744073709551616) (v0 : 0 ≤ v) (v1 : v < 18446744073709551616) :
    host_Store.f l m a n v = some (storeS l m a n v) := by
  unfold host_Store.f storeS
  by_cases h1 : n < 1
  · rw [if_pos h1, if_pos (Or.inl h1)]
  rw [if_neg h1]
  by_cases h2 : n > 8
  · rw [if_pos h2, if_pos (Or.inr h2)]
  obtain ⟨N, rfl⟩ : ∃ N : Nat, n = (N : Int) := ⟨n.toNat, by omega⟩
  obtain ⟨A, rfl⟩ : ∃ N : Nat, a = (N : Int) := ⟨a.toNat, by omega⟩
  obtain ⟨V, rfl⟩ : ∃ N : Nat, v = (N : Int) := ⟨v.toNat, by omega⟩
  have a1' : A < 18446744073709551616 := by omega
  rw [if_neg h2, if_neg (show ¬ ((N : Int) < 1 ∨ (N : Int) > 8) by omega), host_ask_spec l m hl hr 2 N (by omega) a0 a1 40 (by omega), Option.bind_some, Int.toNat_natCast, Int.toNat_natCast, Int.toNat_natCast]
  by_cases h3 : (askS l (A : Int) 2 N 0).1 = 0
  · rw [if_pos h3, if_pos h3, if_pos ⟨by omega, (risesB_iff m).2 h.mr⟩]
    obtain ⟨_, h4⟩ := askS_ok a0 a1 (Int.le_refl 0) (by omega) h3
    have h5 := (h4 ((N : Int) - 1) (by omega) (by omega)).1
    rw [andNot7_u64 a1', and7_off a1', stMask_eq (by omega) (by omega), mask_high (by omega) (by omega) (Nat.mod_lt _ (by decide)), and_mask_bytes (by rw [p256_8]; omega) (by omega), stCells_spec l h hm (by omega) (by omega) (by omega) (by omega)]
    rfl
  rw [if_neg h3, if_neg h3]
theorem faultS_has {l : List SM} {a need : Int} (h : faultS l a need = 0) : has mpK (a / 16384) l = true := by
  unfold faultS at h
  by_cases h1 : has mpK (a / 16384) l = true
  · exact h1
  rw [if_neg h1] at h
  omega
theorem mem_setL {m : List SC} (hr : Rises clK m) {a u : Int} {x : SC} (h : x ∈ setL a u m) : x ∈ m ∨ (x = ⟨a, u⟩ ∧ u ≠ 0) := by
  rw [setL_setF hr] at h
  exact mem_setF h
theorem pokes_length : ∀ {n : Nat} (m : List SC) (a v : Nat), (pokes m a v n).length ≤ m.length + n
  | 0, m, _, _ => Nat.le_refl _
  | n + 1, m, a, v => by
    have h1 := pokes_length (n := n) (pokeN m a (v % 256)) (a + 1) (v / 256)
    have h2 := pokeN_length m a (v % 256)
    unfold pokes
    omega
theorem mem_pokes {x : SC} : ∀ {n : Nat} {m : List SC} (h : CellsH m) {a v : Nat}, a + n ≤ 18446744073709551616 → x ∈ pokes m a v n → x ∈ m ∨ ∃ j : Nat, j < n ∧ x.f0 = ((a + j - (a + j) % 8 : Nat) : Int)
  | 0, m, h, a, v, _, hx => Or.inl hx
  | n + 1, m, h, a, v, ha, hx => by
    unfold pokes at hx
    rcases mem_pokes (h.poke (by omega)) (by omega) hx with h1 | ⟨j, hj, h1⟩
    · rcases mem_setL h.mr h1 with h2 | ⟨h2, _⟩
      · exact Or.inl h2
      · exact Or.inr ⟨0, by omega, by rw [h2]; rfl⟩
    · exact Or.inr ⟨j + 1, by omega, by rw [h1]; congr 1; omega⟩
theorem FitH.pokes {l : List SM} {m : List SC} (h : FitH l m) {a n v : Nat} (hn : m.length + n ≤ 131072) (ha : a + n ≤ 18446744073709551616) (hp : ∀ j, j < n → has mpK (((a + j : Nat) : Int) / 16384) l = true) : FitH l (pokes m a v n) := by
  have hc := CellsH.pokes h.cells (v := v) ha
  have hlen := pokes_length (n := n) m a v
  refine ⟨h.lr, h.ln, h.lp, hc.mr, by omega, fun x hx => ?_⟩
  have h1 := hc.mp x hx
  refine ⟨h1.1, h1.2.1, h1.2.2.1, h1.2.2.2.1, h1.2.2.2.2, ?_⟩
  rcases mem_pokes h.cells ha hx with h2 | ⟨j, hj, h2⟩
  · exact (h.mp x h2).2.2.2.2.2
  · rw [h2]
    have h3 := hp j hj
    have e : (((a + j - (a + j) % 8 : Nat) : Int)) / 16384 = ((a + j : Nat) : Int) / 16384 := by omega
    rw [e]
    exact h3
theorem FitH.store {l : List SM} {m : List SC} (h : FitH l m) {a n v : Int} (a0 : 0 ≤ a) (a1 : a < 18446744073709551616) (hm : m.length ≤ 131000) : FitH (storeS l m a n v).1 (storeS l m a n v).2.1 := by
  unfold storeS
  split
  · exact h
  rename_i hn
  split
  · rename_i h3
    obtain ⟨_, h4⟩ := askS_ok a0 a1 (Int.le_refl 0) (by omega) h3
    have h5 := (h4 (n - 1) (by omega) (by omega)).1
    refine h.pokes (by omega) (by omega) (fun j hj => ?_)
    have h6 := faultS_has (h4 (j : Int) (by omega) (by omega)).2
    rwa [show a + (j : Int) = ((a.toNat + j : Nat) : Int) by omega] at h6
  · exact h
end Go.Proofs.Ytgkjdpdmmlalcaa.F
end
section
namespace Go.Proofs.Ytgkjdpdmmlalcaa.F
open Go.RowKit Go.Proofs.YtgkjdpdmmlalcaaW.PrintWords Go.Proofs.YtgkjdpdmmlalcaaW.PrintLast Go.Proofs.YtgkjdpdmmlalcaaW.PrintMore
attribute [local go_sem] max2_int min2_int max_two min_two max_three min_three max_four min_four
set_option linter.unusedVariables false
set_option linter.unusedSimpArgs false

def ferryref03_inside.f (a0 : Int) (a1 : Int) (a2 : Int) : Option (Bool) := if a0 ≥ a1 then (some (decide ((IntKind.u64.wrap (a0 - a1)) < a2))) else (some false)
set_option maxHeartbeats 8000000 in
set_option maxRecDepth 100000 in
theorem ferryref03_inside.calls (a0 : Int) (a1 : Int) (a2 : Int) (r : Bool) (w : World) (h : ferryref03_inside.f a0 a1 a2 = some r) :
    Calls Try.prog 103 #[.int .u64 a0, .int .u64 a1, .int .u64 a2] w fun e w' => e = .returned (.bool r) ∧ Drawn0 w w' := by
  have H : (if a0 ≥ a1 then (some (decide ((IntKind.u64.wrap (a0 - a1)) < a2))) else (some false)) = some r := h
  clear h
  by_cases c4 : a0 ≥ a1
  · rw [if_pos c4] at H
    have c4b0 : decide (a1 ≤ a0) = true := decide_eq_true c4
    clear c4
    obtain rfl := Option.some.inj H
    go_enter Try.func103, Try.ntmps103
    go_wp2
    go_ret
    exact ⟨by first | rfl | (simp; done) | (simp [*]; done), by repeat (first | exact Drawn0.refl _ | apply Drawn0.step)⟩
  rw [if_neg c4] at H
  have c4b0 : decide (a1 ≤ a0) = false := decide_eq_false c4
  clear c4
  obtain rfl := Option.some.inj H
  go_enter Try.func103, Try.ntmps103
  go_wp2
  go_ret
  exact ⟨by first | rfl | (simp; done) | (simp [*]; done), by repeat (first | exact Drawn0.refl _ | apply Drawn0.step)⟩

end Go.Proofs.Ytgkjdpdmmlalcaa.F
end
