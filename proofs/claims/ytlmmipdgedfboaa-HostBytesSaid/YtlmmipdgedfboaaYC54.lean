import Derived.Below
import Derived.Deep.Draws
import Derived.Deep.AppendLies
import Derived.Maps.AppendAt
import Derived.OwnWalk
import Derived.Laws.BytesArg
import Derived.Laws.MakeOwn
import Derived.Laws.OwnMore
import Derived.Deep.OwnRows
import Derived.Tactics
import Derived.Lib.ConvBytes
import Derived.Laws.Slices
import Derived.WalkKit
import Derived.KernelRfl
import Derived.RowKit3
import Derived.Deep.LoopGhost
import Derived.Deep.QuietTactic
import Derived.BigQuiet
import Derived.WideLaws
import Derived.Deep.DeepCutAuto
import Derived.Deep.CutBlock
import Derived.Deep.RegionHeld3
import Derived.Laws.Rows
import Derived.Lib.AppendStr
import Derived.ArgAppend
import Derived.Laws.IdiomCopy
import Derived.RowKit
import Derived.OrdersHeld
import Derived.Laws.BitsLemmas
import Derived.Laws.StructEq
import Derived.OwnWalkIn
import Derived.ProofKit
import Derived.Lib.Hide
import Derived.Shelf.RegionOpen
import Derived.Shelf.Abstract
import Derived.Lib.SliceRun
import Derived.WalkSmall
import Derived.Laws.ResultCell
import Derived.Shelf.Spec.SlicesInsertGrow
import Derived.OpenShut
import Derived.Deep.Slices
import Derived.SizedLaws
import Derived.Test.YtlmmipdgedfboaaZF0
import Derived.Test.YtlmmipdgedfboaaYA0Sorted
import Derived.Test.YtlmmipdgedfboaaYA1Slc
import Derived.Test.YtlmmipdgedfboaaYA3HHost0
import Derived.Test.YtlmmipdgedfboaaYA7HHost3
import Derived.Test.YtlmmipdgedfboaaYA14
import Derived.Test.YtlmmipdgedfboaaYA16
import Derived.Test.YtlmmipdgedfboaaYA17HHost6
import Derived.Test.YtlmmipdgedfboaaYA18
import Derived.Test.YtlmmipdgedfboaaYA20
import Derived.Test.YtlmmipdgedfboaaYC46
import Derived.Test.YtlmmipdgedfboaaYC49PHost6
import Derived.Test.YtlmmipdgedfboaaYC51PHost7
import Derived.Test.YtlmmipdgedfboaaYC53PHost8
section
namespace Go.Proofs.Ytlmmipdgedfboaa.F
open Go.RowKit Go.Shelf Go.Proofs.YtlmmipdgedfboaaW.PrintWords Go.Proofs.YtlmmipdgedfboaaW.PrintLast Go.Proofs.YtlmmipdgedfboaaW.PrintMore
set_option linter.unusedVariables false
set_option linter.unusedSimpArgs false
theorem stMask_eq {n : Nat} (h1 : 1 ≤ n) (h8 : n ≤ 8) : stMask (n : Int) = ((256 ^ n - 1 : Nat) : Int) := by
  rcases (by omega : n = 1 ∨ n = 2 ∨ n = 3 ∨ n = 4 ∨ n = 5 ∨ n = 6 ∨ n = 7 ∨ n = 8) with rfl | rfl | rfl | rfl | rfl | rfl | rfl | rfl <;> decide +kernel
theorem mask_low {n o : Nat} (h8 : n ≤ 8) (ho : o < 8) : (256 ^ n - 1) * 256 ^ o % 256 ^ 8 = (256 ^ min n (8 - o) - 1) * 256 ^ o := by
  rcases (by omega : o = 0 ∨ o = 1 ∨ o = 2 ∨ o = 3 ∨ o = 4 ∨ o = 5 ∨ o = 6 ∨ o = 7) with rfl | rfl | rfl | rfl | rfl | rfl | rfl | rfl <;>
  rcases (by omega : n = 0 ∨ n = 1 ∨ n = 2 ∨ n = 3 ∨ n = 4 ∨ n = 5 ∨ n = 6 ∨ n = 7 ∨ n = 8) with rfl | rfl | rfl | rfl | rfl | rfl | rfl | rfl | rfl <;> decide +kernel
theorem mask_high {n o : Nat} (h1 : 1 ≤ n) (h8 : n ≤ 8) (ho : o < 8) : ((256 ^ n - 1 : Nat) : Int) / 2 / 2 ^ min (IntKind.u64.wrap (63 - ((8 * o : Nat) : Int))).toNat 64 = ((256 ^ (n - (8 - o)) - 1 : Nat) : Int) := by
  rcases (by omega : o = 0 ∨ o = 1 ∨ o = 2 ∨ o = 3 ∨ o = 4 ∨ o = 5 ∨ o = 6 ∨ o = 7) with rfl | rfl | rfl | rfl | rfl | rfl | rfl | rfl <;>
  rcases (by omega : n = 1 ∨ n = 2 ∨ n = 3 ∨ n = 4 ∨ n = 5 ∨ n = 6 ∨ n = 7 ∨ n = 8) with rfl | rfl | rfl | rfl | rfl | rfl | rfl | rfl <;> decide +kernel
theorem val_low {v o : Nat} (ho : o ≤ 8) : v * 256 ^ o % 256 ^ 8 = v % 256 ^ (8 - o) * 256 ^ o := by
  have h8 : (256 : Nat) ^ 8 = 256 ^ (8 - o) * 256 ^ o := by rw [← Nat.pow_add]; congr 1; omega
  rw [h8, Nat.mul_mod_mul_right]
theorem mask_pos {n : Nat} (h : 0 < n) : 256 ^ n - 1 ≠ (0 : Nat) := by
  have : 256 ^ 1 ≤ (256 : Nat) ^ n := Nat.pow_le_pow_right (by decide) h
  omega
theorem mod_min {v n k : Nat} : v % 256 ^ n % 256 ^ k = v % 256 ^ min n k := by
  rcases Nat.le_total n k with h | h
  · rw [Nat.min_eq_left h, Nat.mod_eq_of_lt]
    exact Nat.lt_of_lt_of_le (Nat.mod_lt _ (pos256 n)) (Nat.pow_le_pow_right (by decide) h)
  · rw [Nat.min_eq_right h, Nat.mod_mod_of_dvd]
    exact Nat.pow_dvd_pow 256 h
theorem stCells_spec (l : List SM) {m : List SC} (h : CellsH m) (hm : m.length ≤ 999000) {a n v : Nat} (n1 : 1 ≤ n) (n8 : n ≤ 8) (ha : a + n ≤ 18446744073709551616) (hv : v < 18446744073709551616) :
    stCells l m ((a - a % 8 : Nat) : Int) ((8 * (a % 8) : Nat) : Int) ((256 ^ n - 1 : Nat) : Int) ((256 ^ (n - (8 - a % 8)) - 1 : Nat) : Int) ((v % 256 ^ n : Nat) : Int) = some (pokes m a v n) := by
  have ho : a % 8 < 8 := Nat.mod_lt _ (by decide)
  have e1 : shl .u64 ((256 ^ n - 1 : Nat) : Int) ((8 * (a % 8) : Nat) : Int) = (((256 ^ min n (8 - a % 8) - 1) * 256 ^ (a % 8) : Nat) : Int) := by
    rw [shl_bytes _ _ (by omega), mask_low n8 ho]
  have e2 : shl .u64 ((v % 256 ^ n : Nat) : Int) ((8 * (a % 8) : Nat) : Int) = ((v % 256 ^ min n (8 - a % 8) * 256 ^ (a % 8) : Nat) : Int) := by
    rw [shl_bytes _ _ (by omega), val_low (by omega), mod_min]
  have hst1 : st1 m ((a - a % 8 : Nat) : Int) ((8 * (a % 8) : Nat) : Int) ((256 ^ n - 1 : Nat) : Int) ((v % 256 ^ n : Nat) : Int) (wrd m ((a - a % 8 : Nat) : Int)) = setL ((a - a % 8 : Nat) : Int) ((putIn (wN m (a - a % 8)) (a % 8) (min n (8 - a % 8)) (v % 256 ^ min n (8 - a % 8)) : Nat) : Int) m := by
    unfold st1
    rw [e1, e2, h.wN_eq, put64 (h.wN_lt _) (Nat.mod_lt _ (pos256 _)) (by omega)]
  have hc1 : CellsH (setL ((a - a % 8 : Nat) : Int) ((putIn (wN m (a - a % 8)) (a % 8) (min n (8 - a % 8)) (v % 256 ^ min n (8 - a % 8)) : Nat) : Int) m) := h.putW (by omega) (by omega) (by omega)
  have hp1 := fun x => pk_putW h (a := a - a % 8) (o := a % 8) (n := min n (8 - a % 8)) (v := v % 256 ^ min n (8 - a % 8)) (by omega) (by omega) x
  have hD := pk_pokes h (v := v) ha
  have hC := CellsH.pokes h (v := v) ha
  unfold stCells
  rw [host_word_spec l m (by omega) h.mr, Option.bind_some, hst1]
  by_cases hh : n - (8 - a % 8) = 0
  · rw [hh, if_neg (by simp)]
    congr 1
    refine pk_ext hc1 hC (fun x => ?_)
    rw [hp1, hD]
    by_cases hx : a ≤ x ∧ x < a + n
    · rw [if_pos (by omega), if_pos hx, show x - (a - a % 8 + a % 8) = x - a by omega, byteAt_mod _ _ _ (by omega)]
    · rw [if_neg (by omega), if_neg hx]
  · have hne := mask_pos (n := n - (8 - a % 8)) (by omega)
    rw [if_pos ⟨by omega, by omega⟩, host_word_spec l m (by omega) h.mr, Option.bind_some]
    congr 1
    have e8 : IntKind.u64.wrap (((a - a % 8 : Nat) : Int) + 8) = ((a - a % 8 + 8 : Nat) : Int) := by rw [u64w]; omega
    have es : min (IntKind.u64.wrap (64 - ((8 * (a % 8) : Nat) : Int))).toNat 64 = 8 * (8 - a % 8) := by rw [u64w]; omega
    have hq : v % 256 ^ n / 256 ^ (8 - a % 8) < 256 ^ (n - (8 - a % 8)) := by
      rw [Nat.div_lt_iff_lt_mul (pos256 _), ← Nat.pow_add, show n - (8 - a % 8) + (8 - a % 8) = n by omega]
      exact Nat.mod_lt _ (pos256 _)
    have e3 : ((v % 256 ^ n : Nat) : Int) / 2 ^ (8 * (8 - a % 8)) = ((v % 256 ^ n / 256 ^ (8 - a % 8) * 256 ^ 0 : Nat) : Int) := by
      rw [Nat.pow_zero, Nat.mul_one, ← p256 (8 - a % 8)]
      simp
    have e4 : ((256 ^ (n - (8 - a % 8)) - 1 : Nat) : Int) = (((256 ^ (n - (8 - a % 8)) - 1) * 256 ^ 0 : Nat) : Int) := by
      rw [Nat.pow_zero, Nat.mul_one]
    have ew : wrd m ((a - a % 8 + 8 : Nat) : Int) = ((wN (setL ((a - a % 8 : Nat) : Int) ((putIn (wN m (a - a % 8)) (a % 8) (min n (8 - a % 8)) (v % 256 ^ min n (8 - a % 8)) : Nat) : Int) m) (a - a % 8 + 8) : Nat) : Int) := by
      rw [wN_setL h, if_neg (by omega), h.wN_eq]
    unfold st2
    rw [e8, es, e3, e4, ew, put64 (hc1.wN_lt _) hq (by omega)]
    refine pk_ext (hc1.putW (by omega) (by omega) (by omega)) hC (fun x => ?_)
    rw [pk_putW hc1 (by omega) (by omega), hp1, hD]
    by_cases hx : a ≤ x ∧ x < a + n
    · rw [if_pos hx]
      by_cases h2 : a - a % 8 + 8 + 0 ≤ x ∧ x < a - a % 8 + 8 + 0 + (n - (8 - a % 8))
      · rw [if_pos h2, byteAt_div, byteAt_mod _ _ _ (by omega)]
        congr 1
        omega
      · rw [if_neg h2, if_pos (by omega), show x - (a - a % 8 + a % 8) = x - a by omega, byteAt_mod _ _ _ (by omega)]
    · rw [if_neg (by omega), if_neg (by omega), if_neg hx]
theorem host_Store_spec (l : List SM) {m : List SC} (h : CellsH m) (hr : Rises mpK l) (hl : l.length ≤ 1000000) (hm : m.length ≤ 999000) {a n v : Int} (a0 : 0 ≤ a) (a1 : a < 18446744073709551616) (v0 : 0 ≤ v) (v1 : v < 18446744073709551616) :
    host_Store.f l m a n v = some (storeS l m a n v) := by
  unfold host_Store.f storeS
  by_cases h1 : n < 1
  · rw [if_pos h1, if_pos (Or.inl h1)]
  rw [if_neg h1]
  by_cases h2 : n > 8
  · rw [if_pos h2, if_pos (Or.inr h2)]
  obtain ⟨N, rfl⟩ : ∃ N : Nat, n = (N : Int) := ⟨n.toNat, by omega⟩
  obtain ⟨A, rfl⟩ : ∃ N : Nat, a = (N : Int) := ⟨a.toNat, by omega⟩
  obtain ⟨V, rfl⟩ : ∃ N : Nat, v = (N : Int) := ⟨v.toNat, by omega⟩
  have a1' : A < 18446744073709551616 := by omega
  rw [if_neg h2, if_neg (show ¬ ((N : Int) < 1 ∨ (N : Int) > 8) by omega), host_ask_spec l m hl hr 2 N (by omega) a0 a1 40 (by omega), Option.bind_some, Int.toNat_natCast, Int.toNat_natCast, Int.toNat_natCast]
  by_cases h3 : (askS l (A : Int) 2 N 0).1 = 0
  · rw [if_pos h3, if_pos h3, if_pos ⟨by omega, (risesB_iff m).2 h.mr⟩]
    obtain ⟨_, h4⟩ := askS_ok a0 a1 (Int.le_refl 0) (by omega) h3
    have h5 := (h4 ((N : Int) - 1) (by omega) (by omega)).1
    rw [andNot7_u64 a1', and7_off a1', stMask_eq (by omega) (by omega), mask_high (by omega) (by omega) (Nat.mod_lt _ (by decide)), and_mask_bytes (by rw [p256_8]; omega) (by omega), stCells_spec l h hm (by omega) (by omega) (by omega) (by omega)]
    rfl
  · rw [if_neg h3, if_neg h3]
end Go.Proofs.Ytlmmipdgedfboaa.F
end
section
namespace Go.Proofs.Ytlmmipdgedfboaa.F
open Go.RowKit Go.Proofs.YtlmmipdgedfboaaW.PrintWords Go.Proofs.YtlmmipdgedfboaaW.PrintLast Go.Proofs.YtlmmipdgedfboaaW.PrintMore
attribute [local go_sem] max2_int min2_int max_two min_two max_three min_three max_four min_four
set_option linter.unusedVariables false
set_option linter.unusedSimpArgs false

def ferryref03_inside.f (a0 : Int) (a1 : Int) (a2 : Int) : Option (Bool) := if a0 ≥ a1 then (some (decide ((IntKind.u64.wrap (a0 - a1)) < a2))) else (some false)
set_option maxHeartbeats 8000000 in
set_option maxRecDepth 100000 in
theorem ferryref03_inside.calls (a0 : Int) (a1 : Int) (a2 : Int) (r : Bool) (w : World) (h : ferryref03_inside.f a0 a1 a2 = some r) :
    Calls Try.prog 46 #[.int .u64 a0, .int .u64 a1, .int .u64 a2] w fun e w' => e = .returned (.bool r) ∧ Drawn0 w w' := by
  have H : (if a0 ≥ a1 then (some (decide ((IntKind.u64.wrap (a0 - a1)) < a2))) else (some false)) = some r := h
  clear h
  by_cases c4 : a0 ≥ a1
  · rw [if_pos c4] at H
    have c4b0 : decide (a1 ≤ a0) = true := decide_eq_true c4
    clear c4
    obtain rfl := Option.some.inj H
    go_enter Try.func46, Try.ntmps46
    go_wp2
    go_ret
    exact ⟨by first | rfl | (simp; done) | (simp [*]; done), by repeat (first | exact Drawn0.refl _ | apply Drawn0.step)⟩
  · rw [if_neg c4] at H
    have c4b0 : decide (a1 ≤ a0) = false := decide_eq_false c4
    clear c4
    obtain rfl := Option.some.inj H
    go_enter Try.func46, Try.ntmps46
    go_wp2
    go_ret
    exact ⟨by first | rfl | (simp; done) | (simp [*]; done), by repeat (first | exact Drawn0.refl _ | apply Drawn0.step)⟩

end Go.Proofs.Ytlmmipdgedfboaa.F
end
