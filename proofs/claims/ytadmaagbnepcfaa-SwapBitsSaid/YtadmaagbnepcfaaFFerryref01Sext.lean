/- Functions of this seat's program, each as a plain Lean function, and what a call of each comes to. No condition. -/
import Derived.Test.YtadmaagbnepcfaaF0
namespace Go.Proofs.Ytadmaagbnepcfaa.F
open Go.RowKit Go.Proofs.YtadmaagbnepcfaaW.PrintWords Go.Proofs.YtadmaagbnepcfaaW.PrintLast Go.Proofs.YtadmaagbnepcfaaW.PrintMore
attribute [local go_sem] max2_int min2_int max_two min_two max_three min_three max_four min_four   -- for this text's walks alone
set_option linter.unusedVariables false
set_option linter.unusedSimpArgs false

/-! ### ferryref01_Sext: function 15 -/
def ferryref01_Sext.j0 : Nat → Int → Int → Bool → Option (Int)
  | 0, _, _, _ => none
  | k + 1, x0, x1, x11 => if x11 = true then (some x0) else (if 0 ≤ (IntKind.u64.wrap (x1)) then (if 0 ≤ (IntKind.u64.wrap (wrap64 (x1 - 1))) then (if (shr .u32 (Go.bits .and .u32 x0 (((shl .u32 1 (IntKind.u64.wrap (x1))) - 1) % 4294967296)) (IntKind.u64.wrap (wrap64 (x1 - 1)))) = 1 then (some (Go.bits .or .u32 (Go.bits .and .u32 x0 (((shl .u32 1 (IntKind.u64.wrap (x1))) - 1) % 4294967296)) (4294967295 - (((shl .u32 1 (IntKind.u64.wrap (x1))) - 1) % 4294967296)))) else (some (Go.bits .and .u32 x0 (((shl .u32 1 (IntKind.u64.wrap (x1))) - 1) % 4294967296)))) else (none)) else (none))
def ferryref01_Sext.f (k : Nat) (a0 : Int) (a1 : Int) : Option (Int) := if a1 < 1 then (ferryref01_Sext.j0 k a0 a1 true) else (ferryref01_Sext.j0 k a0 a1 (decide (a1 > 31)))
theorem ferryref01_Sext.mono_l : ∀ k, (∀ y0 y1 y2, LeO (ferryref01_Sext.j0 k y0 y1 y2) (ferryref01_Sext.j0 (k + 1) y0 y1 y2))
  | 0 => fun _ _ _ r h => by simp [ferryref01_Sext.j0] at h
  | k + 1 => by
    have ih0 := ferryref01_Sext.mono_l k
    · intro y0 y1 y2
      unfold ferryref01_Sext.j0
      repeat' first
      | (with_reducible exact ih0 _ _ _)
      | (with_reducible exact LeO.refl _)
      | (with_reducible exact LeO.none _)
      | (with_reducible refine LeO.ite ?_ ?_)
      | (with_reducible refine LeO.bind ?_ (fun _ => ?_))
      | exact ih0 _ _ _
      | exact LeO.none _
      | refine LeO.ite ?_ ?_
      | refine LeO.bind ?_ (fun _ => ?_)
theorem ferryref01_Sext.mono : ∀ a0 a1 k, LeO (ferryref01_Sext.f k a0 a1) (ferryref01_Sext.f (k + 1) a0 a1) := by
  intro a0 a1 k
  have ih0 := ferryref01_Sext.mono_l k
  unfold ferryref01_Sext.f
  repeat' first
      | (with_reducible exact ih0 _ _ _)
      | (with_reducible exact LeO.refl _)
      | (with_reducible exact LeO.none _)
      | (with_reducible refine LeO.ite ?_ ?_)
      | (with_reducible refine LeO.bind ?_ (fun _ => ?_))
      | exact ih0 _ _ _
      | exact LeO.none _
      | refine LeO.ite ?_ ?_
      | refine LeO.bind ?_ (fun _ => ?_)
set_option maxHeartbeats 8000000 in
set_option maxRecDepth 100000 in
theorem ferryref01_Sext.calls (k : Nat) (a0 : Int) (a1 : Int) (r : Int) (w : World) (h : ferryref01_Sext.f k a0 a1 = some r) :
    Calls Try.prog 15 #[.int .u32 a0, .int .i64 a1] w fun e w' => e = .returned (.int .u32 r) ∧ Drawn0 w w' := by
  have H : (if a1 < 1 then (ferryref01_Sext.j0 k a0 a1 true) else (ferryref01_Sext.j0 k a0 a1 (decide (a1 > 31)))) = some r := h
  clear h
  have HC3 := Aside0.mk H
  clear H
  go_enter Try.func15, Try.ntmps15
  go_upto_region 1 with (fail)
  go_cut [11] (fun v11 wc => ∃ (kq : Nat) (x11_2 : Bool), v11 = .bool x11_2 ∧ Aside0 (ferryref01_Sext.j0 kq a0 a1 x11_2 = some r) ∧ Aside0 (kq ≤ k) ∧ Drawn0 w wc)
  case first =>
    have H := HC3.out
    clear HC3
    by_cases c4 : a1 < 1
    · rw [if_pos c4] at H
      have c4b0 : decide (a1 < 1) = true := decide_eq_true c4
      clear c4
      (first | rw [c4b0] | (simp only [i64_w, i32_w]; rw [c4b0]) | skip)
      have H' := Aside0.mk H
      clear H
      go_wp2
      go_meet
      case rel => exact ⟨_, (true), (by first | rfl | (simp; done) | (simp [*]; done)), H', ⟨by first | omega | exact Nat.le_refl _⟩, by repeat (first | exact Drawn0.refl _ | apply Drawn0.step)⟩
    · rw [if_neg c4] at H
      have c4b0 : decide (a1 < 1) = false := decide_eq_false c4
      clear c4
      (first | rw [c4b0] | (simp only [i64_w, i32_w]; rw [c4b0]) | skip)
      have H' := Aside0.mk H
      clear H
      go_wp2
      go_meet
      case rel => exact ⟨_, (decide (a1 > 31)), (by first | rfl | (simp; done) | (simp [*]; done)), H', ⟨by first | omega | exact Nat.le_refl _⟩, by repeat (first | exact Drawn0.refl _ | apply Drawn0.step)⟩
  case rest =>
    clear HC3
    try clear c1
    try clear p2
    try clear c4
    try clear c4b0
    obtain ⟨kq, x11_2, rfl, HA, HJ2, ⟨mc2, rfl⟩⟩ := hcut
    cases kq with
    | zero => exact absurd HA.out (by simp [ferryref01_Sext.j0])
    | succ kj2 =>
      have H := HA.out
      clear HA
      simp only [ferryref01_Sext.j0] at H
      by_cases c5 : x11_2 = true
      · subst c5
        have H1 : (some a0) = some r := by rw [if_pos rfl] at H; exact H
        clear H
        have H := H1
        clear H1
        obtain rfl := Option.some.inj H
        go_wp2
        go_ret
        exact ⟨by first | rfl | (simp; done) | (simp [*]; done), by repeat (first | exact Drawn0.refl _ | apply Drawn0.step)⟩
      · replace c5 := Bool.eq_false_iff.mpr c5
        subst c5
        have H1 : (if 0 ≤ (IntKind.u64.wrap (a1)) then (if 0 ≤ (IntKind.u64.wrap (wrap64 (a1 - 1))) then (if (shr .u32 (Go.bits .and .u32 a0 (((shl .u32 1 (IntKind.u64.wrap (a1))) - 1) % 4294967296)) (IntKind.u64.wrap (wrap64 (a1 - 1)))) = 1 then (some (Go.bits .or .u32 (Go.bits .and .u32 a0 (((shl .u32 1 (IntKind.u64.wrap (a1))) - 1) % 4294967296)) (4294967295 - (((shl .u32 1 (IntKind.u64.wrap (a1))) - 1) % 4294967296)))) else (some (Go.bits .and .u32 a0 (((shl .u32 1 (IntKind.u64.wrap (a1))) - 1) % 4294967296)))) else (none)) else (none)) = some r := by rw [if_neg (show ¬ (false = true) by decide)] at H; exact H
        clear H
        have H := H1
        clear H1
        obtain ⟨ji6, hji6⟩ : ∃ j_ : Int, (IntKind.u64.wrap (a1)) = j_ := ⟨_, rfl⟩
        replace H : (if 0 ≤ (ji6) then (if 0 ≤ (IntKind.u64.wrap (wrap64 (a1 - 1))) then (if (shr .u32 (Go.bits .and .u32 a0 (((shl .u32 1 (ji6)) - 1) % 4294967296)) (IntKind.u64.wrap (wrap64 (a1 - 1)))) = 1 then (some (Go.bits .or .u32 (Go.bits .and .u32 a0 (((shl .u32 1 (ji6)) - 1) % 4294967296)) (4294967295 - (((shl .u32 1 (ji6)) - 1) % 4294967296)))) else (some (Go.bits .and .u32 a0 (((shl .u32 1 (ji6)) - 1) % 4294967296)))) else (none)) else (none)) = some r := by first | (rw [hji6] at H; exact H) | (simp only [hji6] at H ⊢; exact H)
        by_cases c7 : 0 ≤ (ji6)
        · rw [if_pos c7] at H
          have c7b0 := eq_true c7
          have c7b1 : decide (0 ≤ (ji6)) = true := decide_eq_true c7
          clear c7
          obtain ⟨ji8, hji8⟩ : ∃ j_ : Int, (shl .u32 1 (ji6)) = j_ := ⟨_, rfl⟩
          replace H : (if 0 ≤ (IntKind.u64.wrap (wrap64 (a1 - 1))) then (if (shr .u32 (Go.bits .and .u32 a0 (((ji8) - 1) % 4294967296)) (IntKind.u64.wrap (wrap64 (a1 - 1)))) = 1 then (some (Go.bits .or .u32 (Go.bits .and .u32 a0 (((ji8) - 1) % 4294967296)) (4294967295 - (((ji8) - 1) % 4294967296)))) else (some (Go.bits .and .u32 a0 (((ji8) - 1) % 4294967296)))) else (none)) = some r := by first | (rw [hji8] at H; exact H) | (simp only [hji8] at H ⊢; exact H)
          have hji8_ : (IntKind.u32.wrap (1 * 2 ^ min (ji6).toNat 32)) = ji8 := hji8
          have hji8z : (ji6) ≤ 32 → (IntKind.u32.wrap (1 * 2 ^ (ji6).toNat)) = ji8 := shl_small hji8
          have hji8u : (IntKind.u32.wrap (2 ^ min (ji6).toNat 32)) = ji8 := by have h_ := hji8_; rw [Int.one_mul] at h_; exact h_
          have hji8v : (ji6) ≤ 32 → (IntKind.u32.wrap (2 ^ (ji6).toNat)) = ji8 := fun hle_ => by have h_ := hji8z hle_; rw [Int.one_mul] at h_; exact h_
          obtain ⟨ji9, hji9⟩ : ∃ j_ : Int, (IntKind.u64.wrap (wrap64 (a1 - 1))) = j_ := ⟨_, rfl⟩
          replace H : (if 0 ≤ (ji9) then (if (shr .u32 (Go.bits .and .u32 a0 (((ji8) - 1) % 4294967296)) (ji9)) = 1 then (some (Go.bits .or .u32 (Go.bits .and .u32 a0 (((ji8) - 1) % 4294967296)) (4294967295 - (((ji8) - 1) % 4294967296)))) else (some (Go.bits .and .u32 a0 (((ji8) - 1) % 4294967296)))) else (none)) = some r := by first | (rw [hji9] at H; exact H) | (simp only [hji9] at H ⊢; exact H)
          by_cases c10 : 0 ≤ (ji9)
          · rw [if_pos c10] at H
            have c10b0 := eq_true c10
            have c10b1 : decide (0 ≤ (ji9)) = true := decide_eq_true c10
            clear c10
            obtain ⟨ji11, hji11⟩ : ∃ j_ : Int, (shr .u32 (Go.bits .and .u32 a0 (((ji8) - 1) % 4294967296)) (ji9)) = j_ := ⟨_, rfl⟩
            replace H : (if (ji11) = 1 then (some (Go.bits .or .u32 (Go.bits .and .u32 a0 (((ji8) - 1) % 4294967296)) (4294967295 - (((ji8) - 1) % 4294967296)))) else (some (Go.bits .and .u32 a0 (((ji8) - 1) % 4294967296)))) = some r := by first | (rw [hji11] at H; exact H) | (simp only [hji11] at H ⊢; exact H)
            have hji11_ : ((Go.bits .and .u32 a0 (((ji8) - 1) % 4294967296)) / 2 ^ min (ji9).toNat 32) = ji11 := hji11
            have hji11z : (ji9) ≤ 32 → ((Go.bits .and .u32 a0 (((ji8) - 1) % 4294967296)) / 2 ^ (ji9).toNat) = ji11 := shr_small hji11
            by_cases c12 : (ji11) = 1
            · rw [if_pos c12] at H
              have c12b0 : ((ji11) == 1) = true := beq_iff_eq.mpr c12
              have c12b1 : ((ji11) != 1) = false := bne_eq_false_iff_eq.mpr c12
              clear c12
              obtain rfl := Option.some.inj H
              go_wp2
              go_ret
              exact ⟨by first | rfl | (simp; done) | (simp only [← hji6, ← hji8, ← hji9, ← hji11] <;> (first | rfl | simp)) | (simp [*]; done), by repeat (first | exact Drawn0.refl _ | apply Drawn0.step)⟩
            · rw [if_neg c12] at H
              have c12b0 : ((ji11) == 1) = false := beq_eq_false_iff_ne.mpr c12
              have c12b1 : ((ji11) != 1) = true := bne_iff_ne.mpr c12
              obtain rfl := Option.some.inj H
              go_wp2
              go_ret
              exact ⟨by first | rfl | (simp; done) | (simp only [← hji6, ← hji8, ← hji9, ← hji11] <;> (first | rfl | simp)) | (simp [*]; done), by repeat (first | exact Drawn0.refl _ | apply Drawn0.step)⟩
          · rw [if_neg c10] at H
            exact absurd H (by simp)
        · rw [if_neg c7] at H
          exact absurd H (by simp)

end Go.Proofs.Ytadmaagbnepcfaa.F
