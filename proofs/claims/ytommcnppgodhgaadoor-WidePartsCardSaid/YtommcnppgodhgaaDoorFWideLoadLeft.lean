/- Functions of this seat's program, each as a plain Lean function, and what a call of each comes to. No condition. -/
import Derived.Test.YtommcnppgodhgaaDoorF0
import Derived.Test.YtommcnppgodhgaaDoorFWideBelow
namespace Go.Proofs.YtommcnppgodhgaaDoor.F
open Go.RowKit Go.Proofs.YtommcnppgodhgaaDoorW.PrintWords Go.Proofs.YtommcnppgodhgaaDoorW.PrintLast Go.Proofs.YtommcnppgodhgaaDoorW.PrintMore
attribute [local go_sem] max2_int min2_int max_two min_two max_three min_three max_four min_four   -- for this text's walks alone
set_option linter.unusedVariables false
set_option linter.unusedSimpArgs false

/-! ### wide_LoadLeft: function 14 -/
def wide_LoadLeft.f (a0 : Int) (a1 : Int) (a2 : Int) : Option (Int) := if 0 ≤ (wrap64 (8 * (Go.bits .and .i64 a2 3))) then ((wide_below.f (Go.bits .and .i64 a2 3)).bind fun t133 => (some (Go.bits .or .u32 (shl .u32 a1 (wrap64 (8 * (Go.bits .and .i64 a2 3)))) (Go.bits .and .u32 a0 t133)))) else (none)
set_option maxHeartbeats 8000000 in
set_option maxRecDepth 100000 in
theorem wide_LoadLeft.calls (a0 : Int) (a1 : Int) (a2 : Int) (r : Int) (w : World) (h : wide_LoadLeft.f a0 a1 a2 = some r) :
    Calls Tryd.prog 14 #[.int .u32 a0, .int .u32 a1, .int .i64 a2] w fun e w' => e = .returned (.int .u32 r) ∧ Drawn0 w w' := by
  have H : (if 0 ≤ (wrap64 (8 * (Go.bits .and .i64 a2 3))) then ((wide_below.f (Go.bits .and .i64 a2 3)).bind fun t133 => (some (Go.bits .or .u32 (shl .u32 a1 (wrap64 (8 * (Go.bits .and .i64 a2 3)))) (Go.bits .and .u32 a0 t133)))) else (none)) = some r := h
  clear h
  obtain ⟨ji4, hji4⟩ : ∃ j_ : Int, (wrap64 (8 * (Go.bits .and .i64 a2 3))) = j_ := ⟨_, rfl⟩
  replace H : (if 0 ≤ (ji4) then ((wide_below.f (Go.bits .and .i64 a2 3)).bind fun t133 => (some (Go.bits .or .u32 (shl .u32 a1 (ji4)) (Go.bits .and .u32 a0 t133)))) else (none)) = some r := by first | (rw [hji4] at H; exact H) | (simp only [hji4] at H ⊢; exact H)
  have hji4w : (IntKind.i64.wrap (8 * (Go.bits .and .i64 a2 3))) = ji4 := (i64_w _).trans hji4
  by_cases c5 : 0 ≤ (ji4)
  · rw [if_pos c5] at H
    have c5b0 := eq_true c5
    have c5b1 : decide (0 ≤ (ji4)) = true := decide_eq_true c5
    clear c5
    obtain ⟨ji6, hji6⟩ : ∃ j_ : Int, (shl .u32 a1 (ji4)) = j_ := ⟨_, rfl⟩
    replace H : ((wide_below.f (Go.bits .and .i64 a2 3)).bind fun t133 => (some (Go.bits .or .u32 (ji6) (Go.bits .and .u32 a0 t133)))) = some r := by first | (rw [hji6] at H; exact H) | (simp only [hji6] at H ⊢; exact H)
    have hji6_ : (IntKind.u32.wrap (a1 * 2 ^ min (ji4).toNat 32)) = ji6 := hji6
    have hji6z : (ji4) ≤ 32 → (IntKind.u32.wrap (a1 * 2 ^ (ji4).toNat)) = ji6 := shl_small hji6
    replace H := Option.bind_eq_some_iff.mp H
    obtain ⟨t133, A70, H⟩ := H
    replace H : (some (Go.bits .or .u32 (ji6) (Go.bits .and .u32 a0 t133))) = some r := H
    have A7 := Aside0.mk A70
    clear A70
    obtain rfl := Option.some.inj H
    go_enter Tryd.func14, Tryd.ntmps14
    go_wp2_with (first | (go_at_call 34; (with_reducible refine (wide_below.calls (Go.bits .and .i64 a2 3) t133 _ A7.out).mono ?_); rintro e w' ⟨rfl, ⟨nd, rfl⟩⟩; (try first | exact ⟨rfl, _, World.drewN_drewN _ _ _⟩ | exact ⟨rfl, _, Eq.trans (World.drewN_drewN _ _ _) (congrArg (World.drewN _) (Nat.add_assoc _ _ _))⟩)))
    repeat (go_quiet (first | (go_at_call 34; (with_reducible refine (wide_below.calls (Go.bits .and .i64 a2 3) t133 _ A7.out).mono ?_); rintro e w' ⟨rfl, ⟨nd, rfl⟩⟩; (try first | exact ⟨rfl, _, World.drewN_drewN _ _ _⟩ | exact ⟨rfl, _, Eq.trans (World.drewN_drewN _ _ _) (congrArg (World.drewN _) (Nat.add_assoc _ _ _))⟩))); try go_wp2_with (first | (go_at_call 34; (with_reducible refine (wide_below.calls (Go.bits .and .i64 a2 3) t133 _ A7.out).mono ?_); rintro e w' ⟨rfl, ⟨nd, rfl⟩⟩; (try first | exact ⟨rfl, _, World.drewN_drewN _ _ _⟩ | exact ⟨rfl, _, Eq.trans (World.drewN_drewN _ _ _) (congrArg (World.drewN _) (Nat.add_assoc _ _ _))⟩))))
    go_ret
    exact ⟨by first | rfl | (simp; done) | (simp only [← hji4, ← hji6] <;> (first | rfl | simp)) | (simp [*]; done), by repeat (first | exact Drawn0.refl _ | apply Drawn0.step)⟩
  · rw [if_neg c5] at H
    exact absurd H (by simp)

end Go.Proofs.YtommcnppgodhgaaDoor.F
