/- Functions of this seat's program, each as a plain Lean function, and what a call of each comes to. No condition. -/
import Derived.Test.YtadmaagbnepcfaaF0
namespace Go.Proofs.Ytadmaagbnepcfaa.F
open Go.RowKit Go.Proofs.YtadmaagbnepcfaaW.PrintWords Go.Proofs.YtadmaagbnepcfaaW.PrintLast Go.Proofs.YtadmaagbnepcfaaW.PrintMore
attribute [local go_sem] max2_int min2_int max_two min_two max_three min_three max_four min_four   -- for this text's walks alone
set_option linter.unusedVariables false
set_option linter.unusedSimpArgs false

/-! ### ferryref01_Rot: function 17 -/
def ferryref01_Rot.f (a0 : Int) (a1 : Int) : Option (Int) := if (Int.tmod (IntKind.u64.wrap (a1)) 32) = 0 then (some a0) else (if 0 ≤ (Int.tmod (IntKind.u64.wrap (a1)) 32) then (if 0 ≤ (IntKind.u64.wrap (32 - (Int.tmod (IntKind.u64.wrap (a1)) 32))) then (some (Go.bits .or .u32 (shr .u32 a0 (Int.tmod (IntKind.u64.wrap (a1)) 32)) (shl .u32 a0 (IntKind.u64.wrap (32 - (Int.tmod (IntKind.u64.wrap (a1)) 32)))))) else (none)) else (none))
set_option maxHeartbeats 8000000 in
set_option maxRecDepth 100000 in
theorem ferryref01_Rot.calls (a0 : Int) (a1 : Int) (r : Int) (w : World) (h : ferryref01_Rot.f a0 a1 = some r) :
    Calls Try.prog 17 #[.int .u32 a0, .int .i64 a1] w fun e w' => e = .returned (.int .u32 r) ∧ Drawn0 w w' := by
  have H : (if (Int.tmod (IntKind.u64.wrap (a1)) 32) = 0 then (some a0) else (if 0 ≤ (Int.tmod (IntKind.u64.wrap (a1)) 32) then (if 0 ≤ (IntKind.u64.wrap (32 - (Int.tmod (IntKind.u64.wrap (a1)) 32))) then (some (Go.bits .or .u32 (shr .u32 a0 (Int.tmod (IntKind.u64.wrap (a1)) 32)) (shl .u32 a0 (IntKind.u64.wrap (32 - (Int.tmod (IntKind.u64.wrap (a1)) 32)))))) else (none)) else (none))) = some r := h
  clear h
  by_cases c3 : (Int.tmod (IntKind.u64.wrap (a1)) 32) = 0
  · rw [if_pos c3] at H
    have c3b0 : ((Int.tmod (IntKind.u64.wrap (a1)) 32) == 0) = true := beq_iff_eq.mpr c3
    have c3b1 : ((Int.tmod (IntKind.u64.wrap (a1)) 32) != 0) = false := bne_eq_false_iff_eq.mpr c3
    clear c3
    obtain rfl := Option.some.inj H
    go_enter Try.func17, Try.ntmps17
    go_wp2
    go_ret
    exact ⟨by first | rfl | (simp; done) | (simp [*]; done), by repeat (first | exact Drawn0.refl _ | apply Drawn0.step)⟩
  · rw [if_neg c3] at H
    have c3b0 : ((Int.tmod (IntKind.u64.wrap (a1)) 32) == 0) = false := beq_eq_false_iff_ne.mpr c3
    have c3b1 : ((Int.tmod (IntKind.u64.wrap (a1)) 32) != 0) = true := bne_iff_ne.mpr c3
    obtain ⟨ji4, hji4⟩ : ∃ j_ : Int, (Int.tmod (IntKind.u64.wrap (a1)) 32) = j_ := ⟨_, rfl⟩
    replace H : (if 0 ≤ (ji4) then (if 0 ≤ (IntKind.u64.wrap (32 - (ji4))) then (some (Go.bits .or .u32 (shr .u32 a0 (ji4)) (shl .u32 a0 (IntKind.u64.wrap (32 - (ji4)))))) else (none)) else (none)) = some r := by first | (rw [hji4] at H; exact H) | (simp only [hji4] at H ⊢; exact H)
    (try rw [hji4] at c3b0)
    (try rw [hji4] at c3b1)
    by_cases c5 : 0 ≤ (ji4)
    · rw [if_pos c5] at H
      have c5b0 := eq_true c5
      have c5b1 : decide (0 ≤ (ji4)) = true := decide_eq_true c5
      clear c5
      obtain ⟨ji6, hji6⟩ : ∃ j_ : Int, (shr .u32 a0 (ji4)) = j_ := ⟨_, rfl⟩
      replace H : (if 0 ≤ (IntKind.u64.wrap (32 - (ji4))) then (some (Go.bits .or .u32 (ji6) (shl .u32 a0 (IntKind.u64.wrap (32 - (ji4)))))) else (none)) = some r := by first | (rw [hji6] at H; exact H) | (simp only [hji6] at H ⊢; exact H)
      have hji6_ : (a0 / 2 ^ min (ji4).toNat 32) = ji6 := hji6
      have hji6z : (ji4) ≤ 32 → (a0 / 2 ^ (ji4).toNat) = ji6 := shr_small hji6
      obtain ⟨ji7, hji7⟩ : ∃ j_ : Int, (IntKind.u64.wrap (32 - (ji4))) = j_ := ⟨_, rfl⟩
      replace H : (if 0 ≤ (ji7) then (some (Go.bits .or .u32 (ji6) (shl .u32 a0 (ji7)))) else (none)) = some r := by first | (rw [hji7] at H; exact H) | (simp only [hji7] at H ⊢; exact H)
      by_cases c8 : 0 ≤ (ji7)
      · rw [if_pos c8] at H
        have c8b0 := eq_true c8
        have c8b1 : decide (0 ≤ (ji7)) = true := decide_eq_true c8
        clear c8
        obtain ⟨ji9, hji9⟩ : ∃ j_ : Int, (shl .u32 a0 (ji7)) = j_ := ⟨_, rfl⟩
        replace H : (some (Go.bits .or .u32 (ji6) (ji9))) = some r := by first | (rw [hji9] at H; exact H) | (simp only [hji9] at H ⊢; exact H)
        have hji9_ : (IntKind.u32.wrap (a0 * 2 ^ min (ji7).toNat 32)) = ji9 := hji9
        have hji9z : (ji7) ≤ 32 → (IntKind.u32.wrap (a0 * 2 ^ (ji7).toNat)) = ji9 := shl_small hji9
        obtain rfl := Option.some.inj H
        go_enter Try.func17, Try.ntmps17
        go_wp2
        go_ret
        exact ⟨by first | rfl | (simp; done) | (simp only [← hji4, ← hji6, ← hji7, ← hji9] <;> (first | rfl | simp)) | (simp [*]; done), by repeat (first | exact Drawn0.refl _ | apply Drawn0.step)⟩
      · rw [if_neg c8] at H
        exact absurd H (by simp)
    · rw [if_neg c5] at H
      exact absurd H (by simp)

end Go.Proofs.Ytadmaagbnepcfaa.F
