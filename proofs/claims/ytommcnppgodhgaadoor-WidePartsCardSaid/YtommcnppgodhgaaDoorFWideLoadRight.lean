/- Functions of this seat's program, each as a plain Lean function, and what a call of each comes to. No condition. -/
import Derived.Test.YtommcnppgodhgaaDoorF0
import Derived.Test.YtommcnppgodhgaaDoorFWideBelow
namespace Go.Proofs.YtommcnppgodhgaaDoor.F
open Go.RowKit Go.Proofs.YtommcnppgodhgaaDoorW.PrintWords Go.Proofs.YtommcnppgodhgaaDoorW.PrintLast Go.Proofs.YtommcnppgodhgaaDoorW.PrintMore
attribute [local go_sem] max2_int min2_int max_two min_two max_three min_three max_four min_four   -- for this text's walks alone
set_option linter.unusedVariables false
set_option linter.unusedSimpArgs false

/-! ### wide_LoadRight: function 16 -/
def wide_LoadRight.f (a0 : Int) (a1 : Int) (a2 : Int) : Option (Int) := (wide_below.f (wrap64 ((Go.bits .and .i64 a2 3) + 1))).bind fun t163 => (if 0 ≤ (wrap64 (32 - (wrap64 (8 * (wrap64 ((Go.bits .and .i64 a2 3) + 1)))))) then (some (Go.bits .or .u32 (Go.bits .andNot .u32 a0 t163) (shr .u32 a1 (wrap64 (32 - (wrap64 (8 * (wrap64 ((Go.bits .and .i64 a2 3) + 1))))))))) else (none))
set_option maxHeartbeats 8000000 in
set_option maxRecDepth 100000 in
theorem wide_LoadRight.calls (a0 : Int) (a1 : Int) (a2 : Int) (r : Int) (w : World) (h : wide_LoadRight.f a0 a1 a2 = some r) :
    Calls Tryd.prog 16 #[.int .u32 a0, .int .u32 a1, .int .i64 a2] w fun e w' => e = .returned (.int .u32 r) ∧ Drawn0 w w' := by
  have H : ((wide_below.f (wrap64 ((Go.bits .and .i64 a2 3) + 1))).bind fun t163 => (if 0 ≤ (wrap64 (32 - (wrap64 (8 * (wrap64 ((Go.bits .and .i64 a2 3) + 1)))))) then (some (Go.bits .or .u32 (Go.bits .andNot .u32 a0 t163) (shr .u32 a1 (wrap64 (32 - (wrap64 (8 * (wrap64 ((Go.bits .and .i64 a2 3) + 1))))))))) else (none))) = some r := h
  clear h
  replace H := Option.bind_eq_some_iff.mp H
  obtain ⟨t163, A40, H⟩ := H
  replace H : (if 0 ≤ (wrap64 (32 - (wrap64 (8 * (wrap64 ((Go.bits .and .i64 a2 3) + 1)))))) then (some (Go.bits .or .u32 (Go.bits .andNot .u32 a0 t163) (shr .u32 a1 (wrap64 (32 - (wrap64 (8 * (wrap64 ((Go.bits .and .i64 a2 3) + 1))))))))) else (none)) = some r := H
  have A4 := Aside0.mk A40
  clear A40
  obtain ⟨ji5, hji5⟩ : ∃ j_ : Int, (wrap64 (32 - (wrap64 (8 * (wrap64 ((Go.bits .and .i64 a2 3) + 1)))))) = j_ := ⟨_, rfl⟩
  replace H : (if 0 ≤ (ji5) then (some (Go.bits .or .u32 (Go.bits .andNot .u32 a0 t163) (shr .u32 a1 (ji5)))) else (none)) = some r := by first | (rw [hji5] at H; exact H) | (simp only [hji5] at H ⊢; exact H)
  (try rw [hji5] at A4)
  have hji5w : (IntKind.i64.wrap (32 - (wrap64 (8 * (wrap64 ((Go.bits .and .i64 a2 3) + 1)))))) = ji5 := (i64_w _).trans hji5
  by_cases c6 : 0 ≤ (ji5)
  · rw [if_pos c6] at H
    have c6b0 := eq_true c6
    have c6b1 : decide (0 ≤ (ji5)) = true := decide_eq_true c6
    clear c6
    obtain ⟨ji7, hji7⟩ : ∃ j_ : Int, (shr .u32 a1 (ji5)) = j_ := ⟨_, rfl⟩
    replace H : (some (Go.bits .or .u32 (Go.bits .andNot .u32 a0 t163) (ji7))) = some r := by first | (rw [hji7] at H; exact H) | (simp only [hji7] at H ⊢; exact H)
    (try rw [hji7] at A4)
    have hji7_ : (a1 / 2 ^ min (ji5).toNat 32) = ji7 := hji7
    have hji7z : (ji5) ≤ 32 → (a1 / 2 ^ (ji5).toNat) = ji7 := shr_small hji7
    obtain rfl := Option.some.inj H
    go_enter Tryd.func16, Tryd.ntmps16
    go_wp2_with (first | (go_at_call 34; (with_reducible refine (wide_below.calls (wrap64 ((Go.bits .and .i64 a2 3) + 1)) t163 _ A4.out).mono ?_); rintro e w' ⟨rfl, ⟨nd, rfl⟩⟩; (try first | exact ⟨rfl, _, World.drewN_drewN _ _ _⟩ | exact ⟨rfl, _, Eq.trans (World.drewN_drewN _ _ _) (congrArg (World.drewN _) (Nat.add_assoc _ _ _))⟩)))
    repeat (go_quiet (first | (go_at_call 34; (with_reducible refine (wide_below.calls (wrap64 ((Go.bits .and .i64 a2 3) + 1)) t163 _ A4.out).mono ?_); rintro e w' ⟨rfl, ⟨nd, rfl⟩⟩; (try first | exact ⟨rfl, _, World.drewN_drewN _ _ _⟩ | exact ⟨rfl, _, Eq.trans (World.drewN_drewN _ _ _) (congrArg (World.drewN _) (Nat.add_assoc _ _ _))⟩))); try go_wp2_with (first | (go_at_call 34; (with_reducible refine (wide_below.calls (wrap64 ((Go.bits .and .i64 a2 3) + 1)) t163 _ A4.out).mono ?_); rintro e w' ⟨rfl, ⟨nd, rfl⟩⟩; (try first | exact ⟨rfl, _, World.drewN_drewN _ _ _⟩ | exact ⟨rfl, _, Eq.trans (World.drewN_drewN _ _ _) (congrArg (World.drewN _) (Nat.add_assoc _ _ _))⟩))))
    go_ret
    exact ⟨by first | rfl | (simp; done) | (simp only [← hji5, ← hji7] <;> (first | rfl | simp)) | (simp [*]; done), by repeat (first | exact Drawn0.refl _ | apply Drawn0.step)⟩
  · rw [if_neg c6] at H
    exact absurd H (by simp)

end Go.Proofs.YtommcnppgodhgaaDoor.F
