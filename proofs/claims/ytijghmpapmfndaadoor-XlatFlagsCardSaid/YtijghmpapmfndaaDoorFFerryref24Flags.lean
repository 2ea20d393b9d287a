/- Functions of this seat's program, each as a plain Lean function, and what a call of each comes to. No condition. -/
import Derived.Test.YtijghmpapmfndaaDoorF0
namespace Go.Proofs.YtijghmpapmfndaaDoor.F
open Go.RowKit Go.Proofs.YtijghmpapmfndaaDoorW.PrintWords Go.Proofs.YtijghmpapmfndaaDoorW.PrintLast Go.Proofs.YtijghmpapmfndaaDoorW.PrintMore
attribute [local go_sem] max2_int min2_int max_two min_two max_three min_three max_four min_four   -- for this text's walks alone
set_option linter.unusedVariables false
set_option linter.unusedSimpArgs false

/-! ### ferryref24_Flags: function 8 -/
mutual
def ferryref24_Flags.j0 : Nat → Int → Bool → Option (Int × Bool)
  | 0, _, _ => none
  | k + 1, x0, x14 => if x14 = true then (some (0, false)) else (if (Go.bits .and .u32 x0 8) = 0 then (ferryref24_Flags.j1 k x0 (wrap64 (Go.bits .and .u32 x0 3))) else (ferryref24_Flags.j1 k x0 (wrap64 ((wrap64 (Go.bits .and .u32 x0 3)) + 1024))))
def ferryref24_Flags.j1 : Nat → Int → Int → Option (Int × Bool)
  | 0, _, _ => none
  | k + 1, x0, x5 => if (Go.bits .and .u32 x0 128) = 0 then (ferryref24_Flags.j2 k x0 x5) else (ferryref24_Flags.j2 k x0 (wrap64 (x5 + 2048)))
def ferryref24_Flags.j2 : Nat → Int → Int → Option (Int × Bool)
  | 0, _, _ => none
  | k + 1, x0, x5 => if (Go.bits .and .u32 x0 256) = 0 then (ferryref24_Flags.j3 k x0 x5) else (ferryref24_Flags.j3 k x0 (wrap64 (x5 + 64)))
def ferryref24_Flags.j3 : Nat → Int → Int → Option (Int × Bool)
  | 0, _, _ => none
  | k + 1, x0, x5 => if (Go.bits .and .u32 x0 512) = 0 then (ferryref24_Flags.j4 k x0 x5) else (ferryref24_Flags.j4 k x0 (wrap64 (x5 + 512)))
def ferryref24_Flags.j4 : Nat → Int → Int → Option (Int × Bool)
  | 0, _, _ => none
  | k + 1, x0, x5 => if (Go.bits .and .u32 x0 1024) = 0 then (if (Go.bits .and .u32 x0 65536) = 0 then (some (x5, true)) else (some (wrap64 (x5 + 65536), true))) else (if (Go.bits .and .u32 x0 65536) = 0 then (some (wrap64 (x5 + 128), true)) else (some (wrap64 ((wrap64 (x5 + 128)) + 65536), true)))
end
def ferryref24_Flags.f (k : Nat) (a0 : Int) : Option (Int × Bool) := if (Go.bits .and .u32 a0 3) = 3 then (ferryref24_Flags.j0 k a0 true) else (ferryref24_Flags.j0 k a0 ((Go.bits .andNot .u32 a0 100235) != 0))
theorem ferryref24_Flags.mono_l : ∀ k, (∀ y0 y1, LeO (ferryref24_Flags.j0 k y0 y1) (ferryref24_Flags.j0 (k + 1) y0 y1)) ∧ (∀ y0 y1, LeO (ferryref24_Flags.j1 k y0 y1) (ferryref24_Flags.j1 (k + 1) y0 y1)) ∧ (∀ y0 y1, LeO (ferryref24_Flags.j2 k y0 y1) (ferryref24_Flags.j2 (k + 1) y0 y1)) ∧ (∀ y0 y1, LeO (ferryref24_Flags.j3 k y0 y1) (ferryref24_Flags.j3 (k + 1) y0 y1)) ∧ (∀ y0 y1, LeO (ferryref24_Flags.j4 k y0 y1) (ferryref24_Flags.j4 (k + 1) y0 y1))
  | 0 => ⟨fun _ _ r h => by simp [ferryref24_Flags.j0] at h, fun _ _ r h => by simp [ferryref24_Flags.j1] at h, fun _ _ r h => by simp [ferryref24_Flags.j2] at h, fun _ _ r h => by simp [ferryref24_Flags.j3] at h, fun _ _ r h => by simp [ferryref24_Flags.j4] at h⟩
  | k + 1 => by
    obtain ⟨ih0, ih1, ih2, ih3, ih4⟩ := ferryref24_Flags.mono_l k
    refine ⟨?_, ?_, ?_, ?_, ?_⟩
    · intro y0 y1
      unfold ferryref24_Flags.j0
      repeat' first
      | (with_reducible exact ih0 _ _)
      | (with_reducible exact ih1 _ _)
      | (with_reducible exact ih2 _ _)
      | (with_reducible exact ih3 _ _)
      | (with_reducible exact ih4 _ _)
      | (with_reducible exact LeO.refl _)
      | (with_reducible exact LeO.none _)
      | (with_reducible refine LeO.ite ?_ ?_)
      | (with_reducible refine LeO.bind ?_ (fun _ => ?_))
      | exact ih0 _ _
      | exact ih1 _ _
      | exact ih2 _ _
      | exact ih3 _ _
      | exact ih4 _ _
      | exact LeO.none _
      | refine LeO.ite ?_ ?_
      | refine LeO.bind ?_ (fun _ => ?_)
    · intro y0 y1
      unfold ferryref24_Flags.j1
      repeat' first
      | (with_reducible exact ih0 _ _)
      | (with_reducible exact ih1 _ _)
      | (with_reducible exact ih2 _ _)
      | (with_reducible exact ih3 _ _)
      | (with_reducible exact ih4 _ _)
      | (with_reducible exact LeO.refl _)
      | (with_reducible exact LeO.none _)
      | (with_reducible refine LeO.ite ?_ ?_)
      | (with_reducible refine LeO.bind ?_ (fun _ => ?_))
      | exact ih0 _ _
      | exact ih1 _ _
      | exact ih2 _ _
      | exact ih3 _ _
      | exact ih4 _ _
      | exact LeO.none _
      | refine LeO.ite ?_ ?_
      | refine LeO.bind ?_ (fun _ => ?_)
    · intro y0 y1
      unfold ferryref24_Flags.j2
      repeat' first
      | (with_reducible exact ih0 _ _)
      | (with_reducible exact ih1 _ _)
      | (with_reducible exact ih2 _ _)
      | (with_reducible exact ih3 _ _)
      | (with_reducible exact ih4 _ _)
      | (with_reducible exact LeO.refl _)
      | (with_reducible exact LeO.none _)
      | (with_reducible refine LeO.ite ?_ ?_)
      | (with_reducible refine LeO.bind ?_ (fun _ => ?_))
      | exact ih0 _ _
      | exact ih1 _ _
      | exact ih2 _ _
      | exact ih3 _ _
      | exact ih4 _ _
      | exact LeO.none _
      | refine LeO.ite ?_ ?_
      | refine LeO.bind ?_ (fun _ => ?_)
    · intro y0 y1
      unfold ferryref24_Flags.j3
      repeat' first
      | (with_reducible exact ih0 _ _)
      | (with_reducible exact ih1 _ _)
      | (with_reducible exact ih2 _ _)
      | (with_reducible exact ih3 _ _)
      | (with_reducible exact ih4 _ _)
      | (with_reducible exact LeO.refl _)
      | (with_reducible exact LeO.none _)
      | (with_reducible refine LeO.ite ?_ ?_)
      | (with_reducible refine LeO.bind ?_ (fun _ => ?_))
      | exact ih0 _ _
      | exact ih1 _ _
      | exact ih2 _ _
      | exact ih3 _ _
      | exact ih4 _ _
      | exact LeO.none _
      | refine LeO.ite ?_ ?_
      | refine LeO.bind ?_ (fun _ => ?_)
    · intro y0 y1
      unfold ferryref24_Flags.j4
      repeat' first
      | (with_reducible exact ih0 _ _)
      | (with_reducible exact ih1 _ _)
      | (with_reducible exact ih2 _ _)
      | (with_reducible exact ih3 _ _)
      | (with_reducible exact ih4 _ _)
      | (with_reducible exact LeO.refl _)
      | (with_reducible exact LeO.none _)
      | (with_reducible refine LeO.ite ?_ ?_)
      | (with_reducible refine LeO.bind ?_ (fun _ => ?_))
      | exact ih0 _ _
      | exact ih1 _ _
      | exact ih2 _ _
      | exact ih3 _ _
      | exact ih4 _ _
      | exact LeO.none _
      | refine LeO.ite ?_ ?_
      | refine LeO.bind ?_ (fun _ => ?_)
theorem ferryref24_Flags.mono : ∀ a0 k, LeO (ferryref24_Flags.f k a0) (ferryref24_Flags.f (k + 1) a0) := by
  intro a0 k
  obtain ⟨ih0, ih1, ih2, ih3, ih4⟩ := ferryref24_Flags.mono_l k
  unfold ferryref24_Flags.f
  repeat' first
      | (with_reducible exact ih0 _ _)
      | (with_reducible exact ih1 _ _)
      | (with_reducible exact ih2 _ _)
      | (with_reducible exact ih3 _ _)
      | (with_reducible exact ih4 _ _)
      | (with_reducible exact LeO.refl _)
      | (with_reducible exact LeO.none _)
      | (with_reducible refine LeO.ite ?_ ?_)
      | (with_reducible refine LeO.bind ?_ (fun _ => ?_))
      | exact ih0 _ _
      | exact ih1 _ _
      | exact ih2 _ _
      | exact ih3 _ _
      | exact ih4 _ _
      | exact LeO.none _
      | refine LeO.ite ?_ ?_
      | refine LeO.bind ?_ (fun _ => ?_)
set_option maxHeartbeats 8000000 in
set_option maxRecDepth 100000 in
theorem ferryref24_Flags.calls (k : Nat) (a0 : Int) (r1 : Int) (r2 : Bool) (w : World) (h : ferryref24_Flags.f k a0 = some (r1, r2)) :
    Calls Tryd.prog 8 #[.int .u32 a0] w fun e w' => e = .returned (.tuple #[.int .i64 r1, .bool r2]) ∧ Drawn0 w w' := by
  have H : (if (Go.bits .and .u32 a0 3) = 3 then (ferryref24_Flags.j0 k a0 true) else (ferryref24_Flags.j0 k a0 ((Go.bits .andNot .u32 a0 100235) != 0))) = some (r1, r2) := h
  clear h
  have HC2 := Aside0.mk H
  clear H
  go_enter Tryd.func8, Tryd.ntmps8
  go_upto_region 2 with (fail)
  go_cut [14] (fun v14 wc => ∃ (kq : Nat) (x14_1 : Bool), v14 = .bool x14_1 ∧ Aside0 (ferryref24_Flags.j0 kq a0 x14_1 = some (r1, r2)) ∧ Aside0 (kq ≤ k) ∧ Drawn0 w wc)
  case first =>
    have H := HC2.out
    clear HC2
    by_cases c3 : (Go.bits .and .u32 a0 3) = 3
    · rw [if_pos c3] at H
      have c3b0 : ((Go.bits .and .u32 a0 3) == 3) = true := beq_iff_eq.mpr c3
      have c3b1 : ((Go.bits .and .u32 a0 3) != 3) = false := bne_eq_false_iff_eq.mpr c3
      clear c3
      (first | rw [c3b0] | (simp only [i64_w, i32_w]; rw [c3b0]) | skip)
      have H' := Aside0.mk H
      clear H
      go_wp2
      go_meet
      case rel => exact ⟨_, (true), (by first | rfl | (simp; done) | (simp [*]; done)), H', ⟨by first | omega | exact Nat.le_refl _⟩, by repeat (first | exact Drawn0.refl _ | apply Drawn0.step)⟩
    · rw [if_neg c3] at H
      have c3b0 : ((Go.bits .and .u32 a0 3) == 3) = false := beq_eq_false_iff_ne.mpr c3
      have c3b1 : ((Go.bits .and .u32 a0 3) != 3) = true := bne_iff_ne.mpr c3
      (first | rw [c3b0] | (simp only [i64_w, i32_w]; rw [c3b0]) | skip)
      have H' := Aside0.mk H
      clear H
      go_wp2
      go_meet
      case rel => exact ⟨_, (((Go.bits .andNot .u32 a0 100235) != 0)), (by first | rfl | (simp; done) | (simp [*]; done)), H', ⟨by first | omega | exact Nat.le_refl _⟩, by repeat (first | exact Drawn0.refl _ | apply Drawn0.step)⟩
  case rest =>
    clear HC2
    try clear p2
    try clear c3
    try clear c3b0
    try clear c3b1
    obtain ⟨kq, x14_1, rfl, HA, HJ1, ⟨mc1, rfl⟩⟩ := hcut
    cases kq with
    | zero => exact absurd HA.out (by simp [ferryref24_Flags.j0])
    | succ kj1 =>
      have H := HA.out
      clear HA
      simp only [ferryref24_Flags.j0] at H
      by_cases c4 : x14_1 = true
      · subst c4
        have H1 : (some (0, false)) = some (r1, r2) := by rw [if_pos rfl] at H; exact H
        clear H
        have H := H1
        clear H1
        simp only [Option.some.injEq, Prod.mk.injEq] at H
        obtain ⟨rfl, rfl⟩ := H
        go_wp2
        go_ret2
        exact ⟨by first | rfl | (simp; done) | (simp [*]; done), by repeat (first | exact Drawn0.refl _ | apply Drawn0.step)⟩
      · replace c4 := Bool.eq_false_iff.mpr c4
        subst c4
        have H1 : (if (Go.bits .and .u32 a0 8) = 0 then (ferryref24_Flags.j1 kj1 a0 (wrap64 (Go.bits .and .u32 a0 3))) else (ferryref24_Flags.j1 kj1 a0 (wrap64 ((wrap64 (Go.bits .and .u32 a0 3)) + 1024)))) = some (r1, r2) := by rw [if_neg (show ¬ (false = true) by decide)] at H; exact H
        clear H
        have H := H1
        clear H1
        have HC5 := Aside0.mk H
        clear H
        go_upto_if 20 with (fail)
        go_cut [5] (fun v5 wc => ∃ (kq : Nat) (x5_4 : Int), v5 = .int .i64 x5_4 ∧ Aside0 (ferryref24_Flags.j1 kq a0 x5_4 = some (r1, r2)) ∧ Aside0 (kq ≤ kj1) ∧ Drawn0 w wc)
        case first =>
          have H := HC5.out
          clear HC5
          by_cases c6 : (Go.bits .and .u32 a0 8) = 0
          · rw [if_pos c6] at H
            have c6b0 : ((Go.bits .and .u32 a0 8) == 0) = true := beq_iff_eq.mpr c6
            have c6b1 : ((Go.bits .and .u32 a0 8) != 0) = false := bne_eq_false_iff_eq.mpr c6
            clear c6
            (first | rw [c6b0] | (simp only [i64_w, i32_w]; rw [c6b0]) | skip)
            have H' := Aside0.mk H
            clear H
            go_wp2
            go_meet
            case rel => exact ⟨_, (wrap64 (Go.bits .and .u32 a0 3)), (by first | rfl | (simp; done) | (simp [*]; done)), H', ⟨by have := HJ1.out; first | omega | exact Nat.le_refl _⟩, by repeat (first | exact Drawn0.refl _ | apply Drawn0.step)⟩
          · rw [if_neg c6] at H
            have c6b0 : ((Go.bits .and .u32 a0 8) == 0) = false := beq_eq_false_iff_ne.mpr c6
            have c6b1 : ((Go.bits .and .u32 a0 8) != 0) = true := bne_iff_ne.mpr c6
            (first | rw [c6b0] | (simp only [i64_w, i32_w]; rw [c6b0]) | skip)
            have H' := Aside0.mk H
            clear H
            go_wp2
            go_meet
            case rel => exact ⟨_, (wrap64 ((wrap64 (Go.bits .and .u32 a0 3)) + 1024)), (by first | rfl | (simp; done) | (simp [*]; done)), H', ⟨by have := HJ1.out; first | omega | exact Nat.le_refl _⟩, by repeat (first | exact Drawn0.refl _ | apply Drawn0.step)⟩
        case rest =>
          clear HC5
          try clear c1
          try clear p2
          try clear c3
          try clear c3b0
          try clear c3b1
          try clear c4
          try clear c6
          try clear c6b0
          try clear c6b1
          try clear p6
          try clear p2
          obtain ⟨kq, x5_4, rfl, HA, HJ4, ⟨mc4, rfl⟩⟩ := hcut
          cases kq with
          | zero => exact absurd HA.out (by simp [ferryref24_Flags.j1])
          | succ kj4 =>
            have H := HA.out
            clear HA
            simp only [ferryref24_Flags.j1] at H
            have HC7 := Aside0.mk H
            clear H
            go_upto_if 25 with (fail)
            go_cut [5] (fun v5 wc => ∃ (kq : Nat) (x5_6 : Int), v5 = .int .i64 x5_6 ∧ Aside0 (ferryref24_Flags.j2 kq a0 x5_6 = some (r1, r2)) ∧ Aside0 (kq ≤ kj4) ∧ Drawn0 w wc)
            case first =>
              have H := HC7.out
              clear HC7
              by_cases c8 : (Go.bits .and .u32 a0 128) = 0
              · rw [if_pos c8] at H
                have c8b0 : ((Go.bits .and .u32 a0 128) == 0) = true := beq_iff_eq.mpr c8
                have c8b1 : ((Go.bits .and .u32 a0 128) != 0) = false := bne_eq_false_iff_eq.mpr c8
                clear c8
                (first | rw [c8b0] | (simp only [i64_w, i32_w]; rw [c8b0]) | skip)
                have H' := Aside0.mk H
                clear H
                go_wp2
                go_meet
                case rel => exact ⟨_, (x5_4), (by first | rfl | (simp; done) | (simp [*]; done)), H', ⟨by have := HJ1.out; have := HJ4.out; first | omega | exact Nat.le_refl _⟩, by repeat (first | exact Drawn0.refl _ | apply Drawn0.step)⟩
              · rw [if_neg c8] at H
                have c8b0 : ((Go.bits .and .u32 a0 128) == 0) = false := beq_eq_false_iff_ne.mpr c8
                have c8b1 : ((Go.bits .and .u32 a0 128) != 0) = true := bne_iff_ne.mpr c8
                (first | rw [c8b0] | (simp only [i64_w, i32_w]; rw [c8b0]) | skip)
                have H' := Aside0.mk H
                clear H
                go_wp2
                go_meet
                case rel => exact ⟨_, (wrap64 (x5_4 + 2048)), (by first | rfl | (simp; done) | (simp [*]; done)), H', ⟨by have := HJ1.out; have := HJ4.out; first | omega | exact Nat.le_refl _⟩, by repeat (first | exact Drawn0.refl _ | apply Drawn0.step)⟩
            case rest =>
              clear HC7
              try clear c1
              try clear p2
              try clear c3
              try clear c3b0
              try clear c3b1
              try clear c4
              try clear c6
              try clear c6b0
              try clear c6b1
              try clear p6
              try clear c8
              try clear c8b0
              try clear c8b1
              try clear p2
              try clear p6
              obtain ⟨kq, x5_6, rfl, HA, HJ6, ⟨mc6, rfl⟩⟩ := hcut
              cases kq with
              | zero => exact absurd HA.out (by simp [ferryref24_Flags.j2])
              | succ kj6 =>
                have H := HA.out
                clear HA
                simp only [ferryref24_Flags.j2] at H
                have HC9 := Aside0.mk H
                clear H
                go_upto_if 30 with (fail)
                go_cut [5] (fun v5 wc => ∃ (kq : Nat) (x5_8 : Int), v5 = .int .i64 x5_8 ∧ Aside0 (ferryref24_Flags.j3 kq a0 x5_8 = some (r1, r2)) ∧ Aside0 (kq ≤ kj6) ∧ Drawn0 w wc)
                case first =>
                  have H := HC9.out
                  clear HC9
                  by_cases c10 : (Go.bits .and .u32 a0 256) = 0
                  · rw [if_pos c10] at H
                    have c10b0 : ((Go.bits .and .u32 a0 256) == 0) = true := beq_iff_eq.mpr c10
                    have c10b1 : ((Go.bits .and .u32 a0 256) != 0) = false := bne_eq_false_iff_eq.mpr c10
                    clear c10
                    (first | rw [c10b0] | (simp only [i64_w, i32_w]; rw [c10b0]) | skip)
                    have H' := Aside0.mk H
                    clear H
                    go_wp2
                    go_meet
                    case rel => exact ⟨_, (x5_6), (by first | rfl | (simp; done) | (simp [*]; done)), H', ⟨by have := HJ1.out; have := HJ4.out; have := HJ6.out; first | omega | exact Nat.le_refl _⟩, by repeat (first | exact Drawn0.refl _ | apply Drawn0.step)⟩
                  · rw [if_neg c10] at H
                    have c10b0 : ((Go.bits .and .u32 a0 256) == 0) = false := beq_eq_false_iff_ne.mpr c10
                    have c10b1 : ((Go.bits .and .u32 a0 256) != 0) = true := bne_iff_ne.mpr c10
                    (first | rw [c10b0] | (simp only [i64_w, i32_w]; rw [c10b0]) | skip)
                    have H' := Aside0.mk H
                    clear H
                    go_wp2
                    go_meet
                    case rel => exact ⟨_, (wrap64 (x5_6 + 64)), (by first | rfl | (simp; done) | (simp [*]; done)), H', ⟨by have := HJ1.out; have := HJ4.out; have := HJ6.out; first | omega | exact Nat.le_refl _⟩, by repeat (first | exact Drawn0.refl _ | apply Drawn0.step)⟩
                case rest =>
                  clear HC9
                  try clear c1
                  try clear p2
                  try clear c3
                  try clear c3b0
                  try clear c3b1
                  try clear c4
                  try clear c6
                  try clear c6b0
                  try clear c6b1
                  try clear p6
                  try clear c8
                  try clear c8b0
                  try clear c8b1
                  try clear c10
                  try clear c10b0
                  try clear c10b1
                  try clear p2
                  try clear p6
                  obtain ⟨kq, x5_8, rfl, HA, HJ8, ⟨mc8, rfl⟩⟩ := hcut
                  cases kq with
                  | zero => exact absurd HA.out (by simp [ferryref24_Flags.j3])
                  | succ kj8 =>
                    have H := HA.out
                    clear HA
                    simp only [ferryref24_Flags.j3] at H
                    have HC11 := Aside0.mk H
                    clear H
                    go_upto_if 35 with (fail)
                    go_cut [5] (fun v5 wc => ∃ (kq : Nat) (x5_10 : Int), v5 = .int .i64 x5_10 ∧ Aside0 (ferryref24_Flags.j4 kq a0 x5_10 = some (r1, r2)) ∧ Aside0 (kq ≤ kj8) ∧ Drawn0 w wc)
                    case first =>
                      have H := HC11.out
                      clear HC11
                      by_cases c12 : (Go.bits .and .u32 a0 512) = 0
                      · rw [if_pos c12] at H
                        have c12b0 : ((Go.bits .and .u32 a0 512) == 0) = true := beq_iff_eq.mpr c12
                        have c12b1 : ((Go.bits .and .u32 a0 512) != 0) = false := bne_eq_false_iff_eq.mpr c12
                        clear c12
                        (first | rw [c12b0] | (simp only [i64_w, i32_w]; rw [c12b0]) | skip)
                        have H' := Aside0.mk H
                        clear H
                        go_wp2
                        go_meet
                        case rel => exact ⟨_, (x5_8), (by first | rfl | (simp; done) | (simp [*]; done)), H', ⟨by have := HJ1.out; have := HJ4.out; have := HJ6.out; have := HJ8.out; first | omega | exact Nat.le_refl _⟩, by repeat (first | exact Drawn0.refl _ | apply Drawn0.step)⟩
                      · rw [if_neg c12] at H
                        have c12b0 : ((Go.bits .and .u32 a0 512) == 0) = false := beq_eq_false_iff_ne.mpr c12
                        have c12b1 : ((Go.bits .and .u32 a0 512) != 0) = true := bne_iff_ne.mpr c12
                        (first | rw [c12b0] | (simp only [i64_w, i32_w]; rw [c12b0]) | skip)
                        have H' := Aside0.mk H
                        clear H
                        go_wp2
                        go_meet
                        case rel => exact ⟨_, (wrap64 (x5_8 + 512)), (by first | rfl | (simp; done) | (simp [*]; done)), H', ⟨by have := HJ1.out; have := HJ4.out; have := HJ6.out; have := HJ8.out; first | omega | exact Nat.le_refl _⟩, by repeat (first | exact Drawn0.refl _ | apply Drawn0.step)⟩
                    case rest =>
                      clear HC11
                      try clear c1
                      try clear p2
                      try clear c3
                      try clear c3b0
                      try clear c3b1
                      try clear c4
                      try clear c6
                      try clear c6b0
                      try clear c6b1
                      try clear p6
                      try clear c8
                      try clear c8b0
                      try clear c8b1
                      try clear c10
                      try clear c10b0
                      try clear c10b1
                      try clear c12
                      try clear c12b0
                      try clear c12b1
                      try clear p2
                      try clear p6
                      obtain ⟨kq, x5_10, rfl, HA, HJ10, ⟨mc10, rfl⟩⟩ := hcut
                      cases kq with
                      | zero => exact absurd HA.out (by simp [ferryref24_Flags.j4])
                      | succ kj10 =>
                        have H := HA.out
                        clear HA
                        simp only [ferryref24_Flags.j4] at H
                        by_cases c13 : (Go.bits .and .u32 a0 1024) = 0
                        · rw [if_pos c13] at H
                          have c13b0 : ((Go.bits .and .u32 a0 1024) == 0) = true := beq_iff_eq.mpr c13
                          have c13b1 : ((Go.bits .and .u32 a0 1024) != 0) = false := bne_eq_false_iff_eq.mpr c13
                          clear c13
                          by_cases c14 : (Go.bits .and .u32 a0 65536) = 0
                          · rw [if_pos c14] at H
                            have c14b0 : ((Go.bits .and .u32 a0 65536) == 0) = true := beq_iff_eq.mpr c14
                            have c14b1 : ((Go.bits .and .u32 a0 65536) != 0) = false := bne_eq_false_iff_eq.mpr c14
                            clear c14
                            simp only [Option.some.injEq, Prod.mk.injEq] at H
                            obtain ⟨rfl, rfl⟩ := H
                            go_wp2
                            go_ret2
                            exact ⟨by first | rfl | (simp; done) | (simp [*]; done), by repeat (first | exact Drawn0.refl _ | apply Drawn0.step)⟩
                          · rw [if_neg c14] at H
                            have c14b0 : ((Go.bits .and .u32 a0 65536) == 0) = false := beq_eq_false_iff_ne.mpr c14
                            have c14b1 : ((Go.bits .and .u32 a0 65536) != 0) = true := bne_iff_ne.mpr c14
                            simp only [Option.some.injEq, Prod.mk.injEq] at H
                            obtain ⟨rfl, rfl⟩ := H
                            go_wp2
                            go_ret2
                            exact ⟨by first | rfl | (simp; done) | (simp [*]; done), by repeat (first | exact Drawn0.refl _ | apply Drawn0.step)⟩
                        · rw [if_neg c13] at H
                          have c13b0 : ((Go.bits .and .u32 a0 1024) == 0) = false := beq_eq_false_iff_ne.mpr c13
                          have c13b1 : ((Go.bits .and .u32 a0 1024) != 0) = true := bne_iff_ne.mpr c13
                          by_cases c15 : (Go.bits .and .u32 a0 65536) = 0
                          · rw [if_pos c15] at H
                            have c15b0 : ((Go.bits .and .u32 a0 65536) == 0) = true := beq_iff_eq.mpr c15
                            have c15b1 : ((Go.bits .and .u32 a0 65536) != 0) = false := bne_eq_false_iff_eq.mpr c15
                            clear c15
                            simp only [Option.some.injEq, Prod.mk.injEq] at H
                            obtain ⟨rfl, rfl⟩ := H
                            go_wp2
                            go_ret2
                            exact ⟨by first | rfl | (simp; done) | (simp [*]; done), by repeat (first | exact Drawn0.refl _ | apply Drawn0.step)⟩
                          · rw [if_neg c15] at H
                            have c15b0 : ((Go.bits .and .u32 a0 65536) == 0) = false := beq_eq_false_iff_ne.mpr c15
                            have c15b1 : ((Go.bits .and .u32 a0 65536) != 0) = true := bne_iff_ne.mpr c15
                            simp only [Option.some.injEq, Prod.mk.injEq] at H
                            obtain ⟨rfl, rfl⟩ := H
                            go_wp2
                            go_ret2
                            exact ⟨by first | rfl | (simp; done) | (simp [*]; done), by repeat (first | exact Drawn0.refl _ | apply Drawn0.step)⟩

end Go.Proofs.YtijghmpapmfndaaDoor.F
