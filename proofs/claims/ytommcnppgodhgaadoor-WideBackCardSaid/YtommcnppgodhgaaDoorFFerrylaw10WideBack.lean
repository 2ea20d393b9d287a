/- Functions of this seat's program, each as a plain Lean function, and what a call of each comes to. No condition. -/
import Derived.Test.YtommcnppgodhgaaDoorF0
import Derived.Test.YtommcnppgodhgaaDoorFFerrylaw10Awake
import Derived.Test.YtommcnppgodhgaaDoorHWideDo
namespace Go.Proofs.YtommcnppgodhgaaDoor.F
open Go.RowKit Go.Proofs.YtommcnppgodhgaaDoorW.PrintWords Go.Proofs.YtommcnppgodhgaaDoorW.PrintLast Go.Proofs.YtommcnppgodhgaaDoorW.PrintMore
attribute [local go_sem] max2_int min2_int max_two min_two max_three min_three max_four min_four   -- for this text's walks alone
set_option linter.unusedVariables false
set_option linter.unusedSimpArgs false

/-! ### ferrylaw10_WideBack: function 4 -/
def ferrylaw10_WideBack.j0 : Nat → Int → Int → Int → Int → Bool → Option (Bool)
  | 0, _, _, _, _, _ => none
  | k + 1, x0, x1, x2, x3, x87 => if x87 = true then (some false) else ((wide_Do.f (⟨#[109, 97, 100, 100]⟩ : ByteArray) x0 x1 x2 x3).bind fun bt150 => ((wide_Do.f (⟨#[109, 115, 117, 98]⟩ : ByteArray) x0 x1 bt150.1 bt150.2).bind fun bt152 => ((wide_Do.f (⟨#[109, 97, 100, 100, 117]⟩ : ByteArray) x0 x1 x2 x3).bind fun bt154 => ((wide_Do.f (⟨#[109, 115, 117, 98, 117]⟩ : ByteArray) x0 x1 bt154.1 bt154.2).bind fun bt156 => ((wide_Do.f (⟨#[109, 117, 108, 116]⟩ : ByteArray) x0 x1 1 2).bind fun bt158 => ((wide_Do.f (⟨#[109, 97, 100, 100]⟩ : ByteArray) x0 x1 0 0).bind fun bt160 => (if bt152.1 = x2 then (if bt152.2 = x3 then (if bt156.1 = x2 then (if bt156.2 = x3 then (if bt158.1 = bt160.1 then (if bt158.2 = bt160.2 then ((ferrylaw10_awake.f).bind fun t162 => (some t162)) else (some false)) else (some false)) else (some false)) else (some false)) else (some false)) else (some false))))))))
def ferrylaw10_WideBack.f (k : Nat) (a0 : Int) (a1 : Int) (a2 : Int) (a3 : Int) : Option (Bool) := (wide_Do.f (⟨#[100, 105, 118]⟩ : ByteArray) a0 a1 a2 a3).bind fun bt146 => ((wide_Do.f (⟨#[100, 105, 118, 117]⟩ : ByteArray) a0 a1 a2 a3).bind fun bt148 => (if ((((bt146.2 * a1) % 4294967296) + bt146.1) % 4294967296) = a0 then (if ((((bt148.2 * a1) % 4294967296) + bt148.1) % 4294967296) = a0 then (if a1 = 0 then (if bt146.1 = a0 then (ferrylaw10_WideBack.j0 k a0 a1 a2 a3 (bt148.1 != a0)) else (ferrylaw10_WideBack.j0 k a0 a1 a2 a3 true)) else (if bt148.1 ≥ a1 then (ferrylaw10_WideBack.j0 k a0 a1 a2 a3 true) else (ferrylaw10_WideBack.j0 k a0 a1 a2 a3 false))) else (if a1 = 0 then (if bt146.1 = a0 then (ferrylaw10_WideBack.j0 k a0 a1 a2 a3 (bt148.1 != a0)) else (ferrylaw10_WideBack.j0 k a0 a1 a2 a3 true)) else (ferrylaw10_WideBack.j0 k a0 a1 a2 a3 true))) else (if a1 = 0 then (if ((((bt148.2 * a1) % 4294967296) + bt148.1) % 4294967296) = a0 then (if bt146.1 = a0 then (ferrylaw10_WideBack.j0 k a0 a1 a2 a3 (bt148.1 != a0)) else (ferrylaw10_WideBack.j0 k a0 a1 a2 a3 true)) else (if bt146.1 = a0 then (ferrylaw10_WideBack.j0 k a0 a1 a2 a3 (bt148.1 != a0)) else (ferrylaw10_WideBack.j0 k a0 a1 a2 a3 true))) else (ferrylaw10_WideBack.j0 k a0 a1 a2 a3 true))))
theorem ferrylaw10_WideBack.mono_l : ∀ k, (∀ y0 y1 y2 y3 y4, LeO (ferrylaw10_WideBack.j0 k y0 y1 y2 y3 y4) (ferrylaw10_WideBack.j0 (k + 1) y0 y1 y2 y3 y4))
  | 0 => fun _ _ _ _ _ r h => by simp [ferrylaw10_WideBack.j0] at h
  | k + 1 => by
    have ih0 := ferrylaw10_WideBack.mono_l k
    · intro y0 y1 y2 y3 y4
      unfold ferrylaw10_WideBack.j0
      repeat' first
      | (with_reducible exact ih0 _ _ _ _ _)
      | (with_reducible exact LeO.refl _)
      | (with_reducible exact LeO.none _)
      | (with_reducible refine LeO.ite ?_ ?_)
      | (with_reducible refine LeO.bind ?_ (fun _ => ?_))
      | exact ih0 _ _ _ _ _
      | exact LeO.none _
      | refine LeO.ite ?_ ?_
      | refine LeO.bind ?_ (fun _ => ?_)
theorem ferrylaw10_WideBack.mono : ∀ a0 a1 a2 a3 k, LeO (ferrylaw10_WideBack.f k a0 a1 a2 a3) (ferrylaw10_WideBack.f (k + 1) a0 a1 a2 a3) := by
  intro a0 a1 a2 a3 k
  have ih0 := ferrylaw10_WideBack.mono_l k
  unfold ferrylaw10_WideBack.f
  repeat' first
      | (with_reducible exact ih0 _ _ _ _ _)
      | (with_reducible exact LeO.refl _)
      | (with_reducible exact LeO.none _)
      | (with_reducible refine LeO.ite ?_ ?_)
      | (with_reducible refine LeO.bind ?_ (fun _ => ?_))
      | exact ih0 _ _ _ _ _
      | exact LeO.none _
      | refine LeO.ite ?_ ?_
      | refine LeO.bind ?_ (fun _ => ?_)
set_option maxHeartbeats 8000000 in
set_option maxRecDepth 100000 in
theorem ferrylaw10_WideBack.calls (k : Nat) (a0 : Int) (a1 : Int) (a2 : Int) (a3 : Int) (r : Bool) (w : World) (hL : Laid w) (h : ferrylaw10_WideBack.f k a0 a1 a2 a3 = some r) :
    Calls Tryd.prog 4 #[.int .u32 a0, .int .u32 a1, .int .u32 a2, .int .u32 a3] w fun e w' => e = .returned (.bool r) ∧ Below w.heap.size w w' := by
  have HB := Aside0.mk (Below.refl w.heap.size w)
  have H : ((wide_Do.f (⟨#[100, 105, 118]⟩ : ByteArray) a0 a1 a2 a3).bind fun bt146 => ((wide_Do.f (⟨#[100, 105, 118, 117]⟩ : ByteArray) a0 a1 a2 a3).bind fun bt148 => (if ((((bt146.2 * a1) % 4294967296) + bt146.1) % 4294967296) = a0 then (if ((((bt148.2 * a1) % 4294967296) + bt148.1) % 4294967296) = a0 then (if a1 = 0 then (if bt146.1 = a0 then (ferrylaw10_WideBack.j0 k a0 a1 a2 a3 (bt148.1 != a0)) else (ferrylaw10_WideBack.j0 k a0 a1 a2 a3 true)) else (if bt148.1 ≥ a1 then (ferrylaw10_WideBack.j0 k a0 a1 a2 a3 true) else (ferrylaw10_WideBack.j0 k a0 a1 a2 a3 false))) else (if a1 = 0 then (if bt146.1 = a0 then (ferrylaw10_WideBack.j0 k a0 a1 a2 a3 (bt148.1 != a0)) else (ferrylaw10_WideBack.j0 k a0 a1 a2 a3 true)) else (ferrylaw10_WideBack.j0 k a0 a1 a2 a3 true))) else (if a1 = 0 then (if ((((bt148.2 * a1) % 4294967296) + bt148.1) % 4294967296) = a0 then (if bt146.1 = a0 then (ferrylaw10_WideBack.j0 k a0 a1 a2 a3 (bt148.1 != a0)) else (ferrylaw10_WideBack.j0 k a0 a1 a2 a3 true)) else (if bt146.1 = a0 then (ferrylaw10_WideBack.j0 k a0 a1 a2 a3 (bt148.1 != a0)) else (ferrylaw10_WideBack.j0 k a0 a1 a2 a3 true))) else (ferrylaw10_WideBack.j0 k a0 a1 a2 a3 true))))) = some r := h
  clear h
  replace H := Option.bind_eq_some_iff.mp H
  obtain ⟨⟨t146, t147⟩, A50, H⟩ := H
  replace H : ((wide_Do.f (⟨#[100, 105, 118, 117]⟩ : ByteArray) a0 a1 a2 a3).bind fun bt148 => (if ((((t147 * a1) % 4294967296) + t146) % 4294967296) = a0 then (if ((((bt148.2 * a1) % 4294967296) + bt148.1) % 4294967296) = a0 then (if a1 = 0 then (if t146 = a0 then (ferrylaw10_WideBack.j0 k a0 a1 a2 a3 (bt148.1 != a0)) else (ferrylaw10_WideBack.j0 k a0 a1 a2 a3 true)) else (if bt148.1 ≥ a1 then (ferrylaw10_WideBack.j0 k a0 a1 a2 a3 true) else (ferrylaw10_WideBack.j0 k a0 a1 a2 a3 false))) else (if a1 = 0 then (if t146 = a0 then (ferrylaw10_WideBack.j0 k a0 a1 a2 a3 (bt148.1 != a0)) else (ferrylaw10_WideBack.j0 k a0 a1 a2 a3 true)) else (ferrylaw10_WideBack.j0 k a0 a1 a2 a3 true))) else (if a1 = 0 then (if ((((bt148.2 * a1) % 4294967296) + bt148.1) % 4294967296) = a0 then (if t146 = a0 then (ferrylaw10_WideBack.j0 k a0 a1 a2 a3 (bt148.1 != a0)) else (ferrylaw10_WideBack.j0 k a0 a1 a2 a3 true)) else (if t146 = a0 then (ferrylaw10_WideBack.j0 k a0 a1 a2 a3 (bt148.1 != a0)) else (ferrylaw10_WideBack.j0 k a0 a1 a2 a3 true))) else (ferrylaw10_WideBack.j0 k a0 a1 a2 a3 true)))) = some r := H
  have A5 := Aside0.mk A50
  clear A50
  replace H := Option.bind_eq_some_iff.mp H
  obtain ⟨⟨t148, t149⟩, A60, H⟩ := H
  replace H : (if ((((t147 * a1) % 4294967296) + t146) % 4294967296) = a0 then (if ((((t149 * a1) % 4294967296) + t148) % 4294967296) = a0 then (if a1 = 0 then (if t146 = a0 then (ferrylaw10_WideBack.j0 k a0 a1 a2 a3 (t148 != a0)) else (ferrylaw10_WideBack.j0 k a0 a1 a2 a3 true)) else (if t148 ≥ a1 then (ferrylaw10_WideBack.j0 k a0 a1 a2 a3 true) else (ferrylaw10_WideBack.j0 k a0 a1 a2 a3 false))) else (if a1 = 0 then (if t146 = a0 then (ferrylaw10_WideBack.j0 k a0 a1 a2 a3 (t148 != a0)) else (ferrylaw10_WideBack.j0 k a0 a1 a2 a3 true)) else (ferrylaw10_WideBack.j0 k a0 a1 a2 a3 true))) else (if a1 = 0 then (if ((((t149 * a1) % 4294967296) + t148) % 4294967296) = a0 then (if t146 = a0 then (ferrylaw10_WideBack.j0 k a0 a1 a2 a3 (t148 != a0)) else (ferrylaw10_WideBack.j0 k a0 a1 a2 a3 true)) else (if t146 = a0 then (ferrylaw10_WideBack.j0 k a0 a1 a2 a3 (t148 != a0)) else (ferrylaw10_WideBack.j0 k a0 a1 a2 a3 true))) else (ferrylaw10_WideBack.j0 k a0 a1 a2 a3 true))) = some r := H
  have A6 := Aside0.mk A60
  clear A60
  have HC7 := Aside0.mk H
  clear H
  go_enter Tryd.func4, Tryd.ntmps4
  go_upto_region 3 with (first | ((with_reducible refine gate_callee (f := 8) rfl ?_); refine goesL_ (some 30) rfl rfl Tryd.func8 (by kernel_rfl) rfl #[.string (⟨#[100, 105, 118]⟩ : ByteArray), .int .u32 a0, .int .u32 a1, .int .u32 a2, .int .u32 a3] rfl (by (try simp only [List.map_toArray, List.map_cons, List.map_nil]); first | done | rfl | (simp only [List.length_drop, List.length_take]; rfl)) ?_; (with_reducible refine (wide_Do.calls (⟨#[100, 105, 118]⟩ : ByteArray) a0 a1 a2 a3 t146 t147 _ ?side1 A5.out).mono ?_); (case side1 => first | exact hL | exact Laid.below hL (by repeat (first | (with_reducible first | exact HB.out | apply below_alloc | apply pw_below_drewN | apply below_drew1) | exact HB.out))); rintro e w8 ⟨rfl, hb⟩; refine ⟨_, rfl, ?_⟩; have n0_ := Aside0.mk (below_step (by repeat (first | (with_reducible first | exact HB.out | apply below_alloc | apply pw_below_drewN | apply below_drew1) | exact HB.out)) hb); clear HB; have HB := n0_; clear n0_; (try clear hb); (try clear hb2); (try clear hk); (try clear hi)) | ((with_reducible refine gate_callee (f := 8) rfl ?_); refine goesL_ (some 38) rfl rfl Tryd.func8 (by kernel_rfl) rfl #[.string (⟨#[100, 105, 118, 117]⟩ : ByteArray), .int .u32 a0, .int .u32 a1, .int .u32 a2, .int .u32 a3] rfl (by (try simp only [List.map_toArray, List.map_cons, List.map_nil]); first | done | rfl | (simp only [List.length_drop, List.length_take]; rfl)) ?_; (with_reducible refine (wide_Do.calls (⟨#[100, 105, 118, 117]⟩ : ByteArray) a0 a1 a2 a3 t148 t149 _ ?side1 A6.out).mono ?_); (case side1 => first | exact hL | exact Laid.below hL (by repeat (first | (with_reducible first | exact HB.out | apply below_alloc | apply pw_below_drewN | apply below_drew1) | exact HB.out))); rintro e w9 ⟨rfl, hb⟩; refine ⟨_, rfl, ?_⟩; have n0_ := Aside0.mk (below_step (by repeat (first | (with_reducible first | exact HB.out | apply below_alloc | apply pw_below_drewN | apply below_drew1) | exact HB.out)) hb); clear HB; have HB := n0_; clear n0_; (try clear hb); (try clear hb2); (try clear hk); (try clear hi)))
  (try simp only [Act.put, List.setIfInBounds_toArray, List.set_cons_zero, List.set_cons_succ])
  go_cut [87] (fun v87 wc => ∃ (kq : Nat) (x87_6 : Bool), v87 = .bool x87_6 ∧ Aside0 (ferrylaw10_WideBack.j0 kq a0 a1 a2 a3 x87_6 = some r) ∧ Aside0 (kq ≤ k) ∧ Aside0 (Below w.heap.size w wc))
  case first =>
    have H := HC7.out
    clear HC7
    by_cases c10 : ((((t147 * a1) % 4294967296) + t146) % 4294967296) = a0
    · rw [if_pos c10] at H
      have c10b0 : (((((t147 * a1) % 4294967296) + t146) % 4294967296) == a0) = true := beq_iff_eq.mpr c10
      (try (have c10bs0 := c10b0; simp only [Int.add_emod_emod, Int.emod_add_emod, Int.sub_emod_emod, Int.emod_sub_emod] at c10bs0))
      have c10b1 : (((((t147 * a1) % 4294967296) + t146) % 4294967296) != a0) = false := bne_eq_false_iff_eq.mpr c10
      (try (have c10bs1 := c10b1; simp only [Int.add_emod_emod, Int.emod_add_emod, Int.sub_emod_emod, Int.emod_sub_emod] at c10bs1))
      clear c10
      (first | rw [c10b0] | (simp only [i64_w, i32_w]; rw [c10b0]) | skip)
      by_cases c11 : ((((t149 * a1) % 4294967296) + t148) % 4294967296) = a0
      · rw [if_pos c11] at H
        have c11b0 : (((((t149 * a1) % 4294967296) + t148) % 4294967296) == a0) = true := beq_iff_eq.mpr c11
        (try (have c11bs0 := c11b0; simp only [Int.add_emod_emod, Int.emod_add_emod, Int.sub_emod_emod, Int.emod_sub_emod] at c11bs0))
        have c11b1 : (((((t149 * a1) % 4294967296) + t148) % 4294967296) != a0) = false := bne_eq_false_iff_eq.mpr c11
        (try (have c11bs1 := c11b1; simp only [Int.add_emod_emod, Int.emod_add_emod, Int.sub_emod_emod, Int.emod_sub_emod] at c11bs1))
        clear c11
        by_cases c12 : a1 = 0
        · rw [if_pos c12] at H
          have c12b0 : (a1 == 0) = true := beq_iff_eq.mpr c12
          have c12b1 : (a1 != 0) = false := bne_eq_false_iff_eq.mpr c12
          clear c12
          by_cases c13 : t146 = a0
          · rw [if_pos c13] at H
            have c13b0 : (t146 == a0) = true := beq_iff_eq.mpr c13
            have c13b1 : (t146 != a0) = false := bne_eq_false_iff_eq.mpr c13
            clear c13
            have H' := Aside0.mk H
            clear H
            go_wp2
            go_meet
            case rel => exact ⟨_, ((t148 != a0)), (by first | rfl | (simp; done) | (simp [*]; done)), H', ⟨by first | omega | exact Nat.le_refl _⟩, ⟨by repeat (first | (with_reducible first | exact HB.out | apply below_alloc | apply pw_below_drewN | apply below_drew1) | exact HB.out)⟩⟩
          · rw [if_neg c13] at H
            have c13b0 : (t146 == a0) = false := beq_eq_false_iff_ne.mpr c13
            have c13b1 : (t146 != a0) = true := bne_iff_ne.mpr c13
            have H' := Aside0.mk H
            clear H
            go_wp2
            go_meet
            case rel => exact ⟨_, (true), (by first | rfl | (simp; done) | (simp [*]; done)), H', ⟨by first | omega | exact Nat.le_refl _⟩, ⟨by repeat (first | (with_reducible first | exact HB.out | apply below_alloc | apply pw_below_drewN | apply below_drew1) | exact HB.out)⟩⟩
        · rw [if_neg c12] at H
          have c12b0 : (a1 == 0) = false := beq_eq_false_iff_ne.mpr c12
          have c12b1 : (a1 != 0) = true := bne_iff_ne.mpr c12
          by_cases c14 : t148 ≥ a1
          · rw [if_pos c14] at H
            have c14b0 : decide (a1 ≤ t148) = true := decide_eq_true c14
            clear c14
            have H' := Aside0.mk H
            clear H
            go_wp2
            go_meet
            case rel => exact ⟨_, (true), (by first | rfl | (simp; done) | (simp [*]; done)), H', ⟨by first | omega | exact Nat.le_refl _⟩, ⟨by repeat (first | (with_reducible first | exact HB.out | apply below_alloc | apply pw_below_drewN | apply below_drew1) | exact HB.out)⟩⟩
          · rw [if_neg c14] at H
            have c14b0 : decide (a1 ≤ t148) = false := decide_eq_false c14
            clear c14
            have H' := Aside0.mk H
            clear H
            go_wp2
            go_meet
            case rel => exact ⟨_, (false), (by first | rfl | (simp; done) | (simp [*]; done)), H', ⟨by first | omega | exact Nat.le_refl _⟩, ⟨by repeat (first | (with_reducible first | exact HB.out | apply below_alloc | apply pw_below_drewN | apply below_drew1) | exact HB.out)⟩⟩
      · rw [if_neg c11] at H
        have c11b0 : (((((t149 * a1) % 4294967296) + t148) % 4294967296) == a0) = false := beq_eq_false_iff_ne.mpr c11
        (try (have c11bs0 := c11b0; simp only [Int.add_emod_emod, Int.emod_add_emod, Int.sub_emod_emod, Int.emod_sub_emod] at c11bs0))
        have c11b1 : (((((t149 * a1) % 4294967296) + t148) % 4294967296) != a0) = true := bne_iff_ne.mpr c11
        (try (have c11bs1 := c11b1; simp only [Int.add_emod_emod, Int.emod_add_emod, Int.sub_emod_emod, Int.emod_sub_emod] at c11bs1))
        by_cases c15 : a1 = 0
        · rw [if_pos c15] at H
          have c15b0 : (a1 == 0) = true := beq_iff_eq.mpr c15
          have c15b1 : (a1 != 0) = false := bne_eq_false_iff_eq.mpr c15
          clear c15
          by_cases c16 : t146 = a0
          · rw [if_pos c16] at H
            have c16b0 : (t146 == a0) = true := beq_iff_eq.mpr c16
            have c16b1 : (t146 != a0) = false := bne_eq_false_iff_eq.mpr c16
            clear c16
            have H' := Aside0.mk H
            clear H
            go_wp2
            go_meet
            case rel => exact ⟨_, ((t148 != a0)), (by first | rfl | (simp; done) | (simp [*]; done)), H', ⟨by first | omega | exact Nat.le_refl _⟩, ⟨by repeat (first | (with_reducible first | exact HB.out | apply below_alloc | apply pw_below_drewN | apply below_drew1) | exact HB.out)⟩⟩
          · rw [if_neg c16] at H
            have c16b0 : (t146 == a0) = false := beq_eq_false_iff_ne.mpr c16
            have c16b1 : (t146 != a0) = true := bne_iff_ne.mpr c16
            have H' := Aside0.mk H
            clear H
            go_wp2
            go_meet
            case rel => exact ⟨_, (true), (by first | rfl | (simp; done) | (simp [*]; done)), H', ⟨by first | omega | exact Nat.le_refl _⟩, ⟨by repeat (first | (with_reducible first | exact HB.out | apply below_alloc | apply pw_below_drewN | apply below_drew1) | exact HB.out)⟩⟩
        · rw [if_neg c15] at H
          have c15b0 : (a1 == 0) = false := beq_eq_false_iff_ne.mpr c15
          have c15b1 : (a1 != 0) = true := bne_iff_ne.mpr c15
          have H' := Aside0.mk H
          clear H
          go_wp2
          go_meet
          case rel => exact ⟨_, (true), (by first | rfl | (simp; done) | (simp [*]; done)), H', ⟨by first | omega | exact Nat.le_refl _⟩, ⟨by repeat (first | (with_reducible first | exact HB.out | apply below_alloc | apply pw_below_drewN | apply below_drew1) | exact HB.out)⟩⟩
    · rw [if_neg c10] at H
      have c10b0 : (((((t147 * a1) % 4294967296) + t146) % 4294967296) == a0) = false := beq_eq_false_iff_ne.mpr c10
      (try (have c10bs0 := c10b0; simp only [Int.add_emod_emod, Int.emod_add_emod, Int.sub_emod_emod, Int.emod_sub_emod] at c10bs0))
      have c10b1 : (((((t147 * a1) % 4294967296) + t146) % 4294967296) != a0) = true := bne_iff_ne.mpr c10
      (try (have c10bs1 := c10b1; simp only [Int.add_emod_emod, Int.emod_add_emod, Int.sub_emod_emod, Int.emod_sub_emod] at c10bs1))
      (first | rw [c10b0] | (simp only [i64_w, i32_w]; rw [c10b0]) | skip)
      by_cases c17 : a1 = 0
      · rw [if_pos c17] at H
        have c17b0 : (a1 == 0) = true := beq_iff_eq.mpr c17
        have c17b1 : (a1 != 0) = false := bne_eq_false_iff_eq.mpr c17
        clear c17
        by_cases c18 : ((((t149 * a1) % 4294967296) + t148) % 4294967296) = a0
        · rw [if_pos c18] at H
          have c18b0 : (((((t149 * a1) % 4294967296) + t148) % 4294967296) == a0) = true := beq_iff_eq.mpr c18
          (try (have c18bs0 := c18b0; simp only [Int.add_emod_emod, Int.emod_add_emod, Int.sub_emod_emod, Int.emod_sub_emod] at c18bs0))
          have c18b1 : (((((t149 * a1) % 4294967296) + t148) % 4294967296) != a0) = false := bne_eq_false_iff_eq.mpr c18
          (try (have c18bs1 := c18b1; simp only [Int.add_emod_emod, Int.emod_add_emod, Int.sub_emod_emod, Int.emod_sub_emod] at c18bs1))
          clear c18
          by_cases c19 : t146 = a0
          · rw [if_pos c19] at H
            have c19b0 : (t146 == a0) = true := beq_iff_eq.mpr c19
            have c19b1 : (t146 != a0) = false := bne_eq_false_iff_eq.mpr c19
            clear c19
            have H' := Aside0.mk H
            clear H
            go_wp2
            go_meet
            case rel => exact ⟨_, ((t148 != a0)), (by first | rfl | (simp; done) | (simp [*]; done)), H', ⟨by first | omega | exact Nat.le_refl _⟩, ⟨by repeat (first | (with_reducible first | exact HB.out | apply below_alloc | apply pw_below_drewN | apply below_drew1) | exact HB.out)⟩⟩
          · rw [if_neg c19] at H
            have c19b0 : (t146 == a0) = false := beq_eq_false_iff_ne.mpr c19
            have c19b1 : (t146 != a0) = true := bne_iff_ne.mpr c19
            have H' := Aside0.mk H
            clear H
            go_wp2
            go_meet
            case rel => exact ⟨_, (true), (by first | rfl | (simp; done) | (simp [*]; done)), H', ⟨by first | omega | exact Nat.le_refl _⟩, ⟨by repeat (first | (with_reducible first | exact HB.out | apply below_alloc | apply pw_below_drewN | apply below_drew1) | exact HB.out)⟩⟩
        · rw [if_neg c18] at H
          have c18b0 : (((((t149 * a1) % 4294967296) + t148) % 4294967296) == a0) = false := beq_eq_false_iff_ne.mpr c18
          (try (have c18bs0 := c18b0; simp only [Int.add_emod_emod, Int.emod_add_emod, Int.sub_emod_emod, Int.emod_sub_emod] at c18bs0))
          have c18b1 : (((((t149 * a1) % 4294967296) + t148) % 4294967296) != a0) = true := bne_iff_ne.mpr c18
          (try (have c18bs1 := c18b1; simp only [Int.add_emod_emod, Int.emod_add_emod, Int.sub_emod_emod, Int.emod_sub_emod] at c18bs1))
          by_cases c20 : t146 = a0
          · rw [if_pos c20] at H
            have c20b0 : (t146 == a0) = true := beq_iff_eq.mpr c20
            have c20b1 : (t146 != a0) = false := bne_eq_false_iff_eq.mpr c20
            clear c20
            have H' := Aside0.mk H
            clear H
            go_wp2
            go_meet
            case rel => exact ⟨_, ((t148 != a0)), (by first | rfl | (simp; done) | (simp [*]; done)), H', ⟨by first | omega | exact Nat.le_refl _⟩, ⟨by repeat (first | (with_reducible first | exact HB.out | apply below_alloc | apply pw_below_drewN | apply below_drew1) | exact HB.out)⟩⟩
          · rw [if_neg c20] at H
            have c20b0 : (t146 == a0) = false := beq_eq_false_iff_ne.mpr c20
            have c20b1 : (t146 != a0) = true := bne_iff_ne.mpr c20
            have H' := Aside0.mk H
            clear H
            go_wp2
            go_meet
            case rel => exact ⟨_, (true), (by first | rfl | (simp; done) | (simp [*]; done)), H', ⟨by first | omega | exact Nat.le_refl _⟩, ⟨by repeat (first | (with_reducible first | exact HB.out | apply below_alloc | apply pw_below_drewN | apply below_drew1) | exact HB.out)⟩⟩
      · rw [if_neg c17] at H
        have c17b0 : (a1 == 0) = false := beq_eq_false_iff_ne.mpr c17
        have c17b1 : (a1 != 0) = true := bne_iff_ne.mpr c17
        have H' := Aside0.mk H
        clear H
        go_wp2
        go_meet
        case rel => exact ⟨_, (true), (by first | rfl | (simp; done) | (simp [*]; done)), H', ⟨by first | omega | exact Nat.le_refl _⟩, ⟨by repeat (first | (with_reducible first | exact HB.out | apply below_alloc | apply pw_below_drewN | apply below_drew1) | exact HB.out)⟩⟩
  case rest =>
    clear HC7
    try clear c1
    try clear c2
    try clear p2
    try clear c4
    try clear c8
    try clear c10
    try clear c10b0
    try clear c10b1
    try clear c11
    try clear c11b0
    try clear c11b1
    try clear c12
    try clear c12b0
    try clear c12b1
    try clear c13
    try clear c13b0
    try clear c13b1
    try clear c14
    try clear c14b0
    try clear c15
    try clear c15b0
    try clear c15b1
    try clear c16
    try clear c16b0
    try clear c16b1
    try clear c17
    try clear c17b0
    try clear c17b1
    try clear c18
    try clear c18b0
    try clear c18b1
    try clear c19
    try clear c19b0
    try clear c19b1
    try clear c20
    try clear c20b0
    try clear c20b1
    obtain ⟨kq, x87_6, rfl, HA, HJ6, HB⟩ := hcut
    cases kq with
    | zero => exact absurd HA.out (by simp [ferrylaw10_WideBack.j0])
    | succ kj6 =>
      have H := HA.out
      clear HA
      simp only [ferrylaw10_WideBack.j0] at H
      by_cases c21 : x87_6 = true
      · subst c21
        have H1 : (some false) = some r := by rw [if_pos rfl] at H; exact H
        clear H
        have H := H1
        clear H1
        obtain rfl := Option.some.inj H
        go_wp2
        go_ret
        exact ⟨by first | rfl | (simp [errW_none, errW_some] <;> rfl) | (simp [*, errW_none, errW_some] <;> rfl), by repeat (first | (with_reducible first | exact HB.out | apply below_alloc | apply pw_below_drewN | apply below_drew1) | exact HB.out)⟩
      · replace c21 := Bool.eq_false_iff.mpr c21
        subst c21
        have H1 : ((wide_Do.f (⟨#[109, 97, 100, 100]⟩ : ByteArray) a0 a1 a2 a3).bind fun bt150 => ((wide_Do.f (⟨#[109, 115, 117, 98]⟩ : ByteArray) a0 a1 bt150.1 bt150.2).bind fun bt152 => ((wide_Do.f (⟨#[109, 97, 100, 100, 117]⟩ : ByteArray) a0 a1 a2 a3).bind fun bt154 => ((wide_Do.f (⟨#[109, 115, 117, 98, 117]⟩ : ByteArray) a0 a1 bt154.1 bt154.2).bind fun bt156 => ((wide_Do.f (⟨#[109, 117, 108, 116]⟩ : ByteArray) a0 a1 1 2).bind fun bt158 => ((wide_Do.f (⟨#[109, 97, 100, 100]⟩ : ByteArray) a0 a1 0 0).bind fun bt160 => (if bt152.1 = a2 then (if bt152.2 = a3 then (if bt156.1 = a2 then (if bt156.2 = a3 then (if bt158.1 = bt160.1 then (if bt158.2 = bt160.2 then ((ferrylaw10_awake.f).bind fun t162 => (some t162)) else (some false)) else (some false)) else (some false)) else (some false)) else (some false)) else (some false)))))))) = some r := by rw [if_neg (show ¬ (false = true) by decide)] at H; exact H
        clear H
        have H := H1
        clear H1
        replace H := Option.bind_eq_some_iff.mp H
        obtain ⟨⟨t150, t151⟩, A220, H⟩ := H
        replace H : ((wide_Do.f (⟨#[109, 115, 117, 98]⟩ : ByteArray) a0 a1 t150 t151).bind fun bt152 => ((wide_Do.f (⟨#[109, 97, 100, 100, 117]⟩ : ByteArray) a0 a1 a2 a3).bind fun bt154 => ((wide_Do.f (⟨#[109, 115, 117, 98, 117]⟩ : ByteArray) a0 a1 bt154.1 bt154.2).bind fun bt156 => ((wide_Do.f (⟨#[109, 117, 108, 116]⟩ : ByteArray) a0 a1 1 2).bind fun bt158 => ((wide_Do.f (⟨#[109, 97, 100, 100]⟩ : ByteArray) a0 a1 0 0).bind fun bt160 => (if bt152.1 = a2 then (if bt152.2 = a3 then (if bt156.1 = a2 then (if bt156.2 = a3 then (if bt158.1 = bt160.1 then (if bt158.2 = bt160.2 then ((ferrylaw10_awake.f).bind fun t162 => (some t162)) else (some false)) else (some false)) else (some false)) else (some false)) else (some false)) else (some false))))))) = some r := H
        have A22 := Aside0.mk A220
        clear A220
        replace H := Option.bind_eq_some_iff.mp H
        obtain ⟨⟨t152, t153⟩, A230, H⟩ := H
        replace H : ((wide_Do.f (⟨#[109, 97, 100, 100, 117]⟩ : ByteArray) a0 a1 a2 a3).bind fun bt154 => ((wide_Do.f (⟨#[109, 115, 117, 98, 117]⟩ : ByteArray) a0 a1 bt154.1 bt154.2).bind fun bt156 => ((wide_Do.f (⟨#[109, 117, 108, 116]⟩ : ByteArray) a0 a1 1 2).bind fun bt158 => ((wide_Do.f (⟨#[109, 97, 100, 100]⟩ : ByteArray) a0 a1 0 0).bind fun bt160 => (if t152 = a2 then (if t153 = a3 then (if bt156.1 = a2 then (if bt156.2 = a3 then (if bt158.1 = bt160.1 then (if bt158.2 = bt160.2 then ((ferrylaw10_awake.f).bind fun t162 => (some t162)) else (some false)) else (some false)) else (some false)) else (some false)) else (some false)) else (some false)))))) = some r := H
        have A23 := Aside0.mk A230
        clear A230
        replace H := Option.bind_eq_some_iff.mp H
        obtain ⟨⟨t154, t155⟩, A240, H⟩ := H
        replace H : ((wide_Do.f (⟨#[109, 115, 117, 98, 117]⟩ : ByteArray) a0 a1 t154 t155).bind fun bt156 => ((wide_Do.f (⟨#[109, 117, 108, 116]⟩ : ByteArray) a0 a1 1 2).bind fun bt158 => ((wide_Do.f (⟨#[109, 97, 100, 100]⟩ : ByteArray) a0 a1 0 0).bind fun bt160 => (if t152 = a2 then (if t153 = a3 then (if bt156.1 = a2 then (if bt156.2 = a3 then (if bt158.1 = bt160.1 then (if bt158.2 = bt160.2 then ((ferrylaw10_awake.f).bind fun t162 => (some t162)) else (some false)) else (some false)) else (some false)) else (some false)) else (some false)) else (some false))))) = some r := H
        have A24 := Aside0.mk A240
        clear A240
        replace H := Option.bind_eq_some_iff.mp H
        obtain ⟨⟨t156, t157⟩, A250, H⟩ := H
        replace H : ((wide_Do.f (⟨#[109, 117, 108, 116]⟩ : ByteArray) a0 a1 1 2).bind fun bt158 => ((wide_Do.f (⟨#[109, 97, 100, 100]⟩ : ByteArray) a0 a1 0 0).bind fun bt160 => (if t152 = a2 then (if t153 = a3 then (if t156 = a2 then (if t157 = a3 then (if bt158.1 = bt160.1 then (if bt158.2 = bt160.2 then ((ferrylaw10_awake.f).bind fun t162 => (some t162)) else (some false)) else (some false)) else (some false)) else (some false)) else (some false)) else (some false)))) = some r := H
        have A25 := Aside0.mk A250
        clear A250
        replace H := Option.bind_eq_some_iff.mp H
        obtain ⟨⟨t158, t159⟩, A260, H⟩ := H
        replace H : ((wide_Do.f (⟨#[109, 97, 100, 100]⟩ : ByteArray) a0 a1 0 0).bind fun bt160 => (if t152 = a2 then (if t153 = a3 then (if t156 = a2 then (if t157 = a3 then (if t158 = bt160.1 then (if t159 = bt160.2 then ((ferrylaw10_awake.f).bind fun t162 => (some t162)) else (some false)) else (some false)) else (some false)) else (some false)) else (some false)) else (some false))) = some r := H
        have A26 := Aside0.mk A260
        clear A260
        replace H := Option.bind_eq_some_iff.mp H
        obtain ⟨⟨t160, t161⟩, A270, H⟩ := H
        replace H : (if t152 = a2 then (if t153 = a3 then (if t156 = a2 then (if t157 = a3 then (if t158 = t160 then (if t159 = t161 then ((ferrylaw10_awake.f).bind fun t162 => (some t162)) else (some false)) else (some false)) else (some false)) else (some false)) else (some false)) else (some false)) = some r := H
        have A27 := Aside0.mk A270
        clear A270
        by_cases c28 : t152 = a2
        · rw [if_pos c28] at H
          have c28b0 : (t152 == a2) = true := beq_iff_eq.mpr c28
          have c28b1 : (t152 != a2) = false := bne_eq_false_iff_eq.mpr c28
          clear c28
          by_cases c29 : t153 = a3
          · rw [if_pos c29] at H
            have c29b0 : (t153 == a3) = true := beq_iff_eq.mpr c29
            have c29b1 : (t153 != a3) = false := bne_eq_false_iff_eq.mpr c29
            clear c29
            by_cases c30 : t156 = a2
            · rw [if_pos c30] at H
              have c30b0 : (t156 == a2) = true := beq_iff_eq.mpr c30
              have c30b1 : (t156 != a2) = false := bne_eq_false_iff_eq.mpr c30
              clear c30
              by_cases c31 : t157 = a3
              · rw [if_pos c31] at H
                have c31b0 : (t157 == a3) = true := beq_iff_eq.mpr c31
                have c31b1 : (t157 != a3) = false := bne_eq_false_iff_eq.mpr c31
                clear c31
                by_cases c32 : t158 = t160
                · rw [if_pos c32] at H
                  have c32b0 : (t158 == t160) = true := beq_iff_eq.mpr c32
                  have c32b1 : (t158 != t160) = false := bne_eq_false_iff_eq.mpr c32
                  clear c32
                  by_cases c33 : t159 = t161
                  · rw [if_pos c33] at H
                    have c33b0 : (t159 == t161) = true := beq_iff_eq.mpr c33
                    have c33b1 : (t159 != t161) = false := bne_eq_false_iff_eq.mpr c33
                    clear c33
                    replace H := Option.bind_eq_some_iff.mp H
                    obtain ⟨t162, A340, H⟩ := H
                    replace H : (some t162) = some r := H
                    have A34 := Aside0.mk A340
                    clear A340
                    obtain rfl := Option.some.inj H
                    go_wp2_with (first | ((with_reducible refine gate_callee (f := 8) rfl ?_); refine goesL_ (some 93) rfl rfl Tryd.func8 (by kernel_rfl) rfl #[.string (⟨#[109, 97, 100, 100]⟩ : ByteArray), .int .u32 a0, .int .u32 a1, .int .u32 a2, .int .u32 a3] rfl (by (try simp only [List.map_toArray, List.map_cons, List.map_nil]); first | done | rfl | (simp only [List.length_drop, List.length_take]; rfl)) ?_; (with_reducible refine (wide_Do.calls (⟨#[109, 97, 100, 100]⟩ : ByteArray) a0 a1 a2 a3 t150 t151 _ ?side1 A22.out).mono ?_); (case side1 => first | exact hL | exact Laid.below hL (by repeat (first | (with_reducible first | exact HB.out | apply below_alloc | apply pw_below_drewN | apply below_drew1) | exact HB.out))); rintro e w35 ⟨rfl, hb⟩; refine ⟨_, rfl, ?_⟩; have n0_ := Aside0.mk (below_step (by repeat (first | (with_reducible first | exact HB.out | apply below_alloc | apply pw_below_drewN | apply below_drew1) | exact HB.out)) hb); clear HB; have HB := n0_; clear n0_; (try clear hb); (try clear hb2); (try clear hk); (try clear hi)) | ((with_reducible refine gate_callee (f := 8) rfl ?_); refine goesL_ (some 101) rfl rfl Tryd.func8 (by kernel_rfl) rfl #[.string (⟨#[109, 115, 117, 98]⟩ : ByteArray), .int .u32 a0, .int .u32 a1, .int .u32 t150, .int .u32 t151] rfl (by (try simp only [List.map_toArray, List.map_cons, List.map_nil]); first | done | rfl | (simp only [List.length_drop, List.length_take]; rfl)) ?_; (with_reducible refine (wide_Do.calls (⟨#[109, 115, 117, 98]⟩ : ByteArray) a0 a1 t150 t151 t152 t153 _ ?side1 A23.out).mono ?_); (case side1 => first | exact hL | exact Laid.below hL (by repeat (first | (with_reducible first | exact HB.out | apply below_alloc | apply pw_below_drewN | apply below_drew1) | exact HB.out))); rintro e w36 ⟨rfl, hb⟩; refine ⟨_, rfl, ?_⟩; have n0_ := Aside0.mk (below_step (by repeat (first | (with_reducible first | exact HB.out | apply below_alloc | apply pw_below_drewN | apply below_drew1) | exact HB.out)) hb); clear HB; have HB := n0_; clear n0_; (try clear hb); (try clear hb2); (try clear hk); (try clear hi)) | ((with_reducible refine gate_callee (f := 8) rfl ?_); refine goesL_ (some 109) rfl rfl Tryd.func8 (by kernel_rfl) rfl #[.string (⟨#[109, 97, 100, 100, 117]⟩ : ByteArray), .int .u32 a0, .int .u32 a1, .int .u32 a2, .int .u32 a3] rfl (by (try simp only [List.map_toArray, List.map_cons, List.map_nil]); first | done | rfl | (simp only [List.length_drop, List.length_take]; rfl)) ?_; (with_reducible refine (wide_Do.calls (⟨#[109, 97, 100, 100, 117]⟩ : ByteArray) a0 a1 a2 a3 t154 t155 _ ?side1 A24.out).mono ?_); (case side1 => first | exact hL | exact Laid.below hL (by repeat (first | (with_reducible first | exact HB.out | apply below_alloc | apply pw_below_drewN | apply below_drew1) | exact HB.out))); rintro e w37 ⟨rfl, hb⟩; refine ⟨_, rfl, ?_⟩; have n0_ := Aside0.mk (below_step (by repeat (first | (with_reducible first | exact HB.out | apply below_alloc | apply pw_below_drewN | apply below_drew1) | exact HB.out)) hb); clear HB; have HB := n0_; clear n0_; (try clear hb); (try clear hb2); (try clear hk); (try clear hi)) | ((with_reducible refine gate_callee (f := 8) rfl ?_); refine goesL_ (some 117) rfl rfl Tryd.func8 (by kernel_rfl) rfl #[.string (⟨#[109, 115, 117, 98, 117]⟩ : ByteArray), .int .u32 a0, .int .u32 a1, .int .u32 t154, .int .u32 t155] rfl (by (try simp only [List.map_toArray, List.map_cons, List.map_nil]); first | done | rfl | (simp only [List.length_drop, List.length_take]; rfl)) ?_; (with_reducible refine (wide_Do.calls (⟨#[109, 115, 117, 98, 117]⟩ : ByteArray) a0 a1 t154 t155 t156 t157 _ ?side1 A25.out).mono ?_); (case side1 => first | exact hL | exact Laid.below hL (by repeat (first | (with_reducible first | exact HB.out | apply below_alloc | apply pw_below_drewN | apply below_drew1) | exact HB.out))); rintro e w38 ⟨rfl, hb⟩; refine ⟨_, rfl, ?_⟩; have n0_ := Aside0.mk (below_step (by repeat (first | (with_reducible first | exact HB.out | apply below_alloc | apply pw_below_drewN | apply below_drew1) | exact HB.out)) hb); clear HB; have HB := n0_; clear n0_; (try clear hb); (try clear hb2); (try clear hk); (try clear hi)) | ((with_reducible refine gate_callee (f := 8) rfl ?_); refine goesL_ (some 123) rfl rfl Tryd.func8 (by kernel_rfl) rfl #[.string (⟨#[109, 117, 108, 116]⟩ : ByteArray), .int .u32 a0, .int .u32 a1, .int .u32 1, .int .u32 2] rfl (by (try simp only [List.map_toArray, List.map_cons, List.map_nil]); first | done | rfl | (simp only [List.length_drop, List.length_take]; rfl)) ?_; (with_reducible refine (wide_Do.calls (⟨#[109, 117, 108, 116]⟩ : ByteArray) a0 a1 1 2 t158 t159 _ ?side1 A26.out).mono ?_); (case side1 => first | exact hL | exact Laid.below hL (by repeat (first | (with_reducible first | exact HB.out | apply below_alloc | apply pw_below_drewN | apply below_drew1) | exact HB.out))); rintro e w39 ⟨rfl, hb⟩; refine ⟨_, rfl, ?_⟩; have n0_ := Aside0.mk (below_step (by repeat (first | (with_reducible first | exact HB.out | apply below_alloc | apply pw_below_drewN | apply below_drew1) | exact HB.out)) hb); clear HB; have HB := n0_; clear n0_; (try clear hb); (try clear hb2); (try clear hk); (try clear hi)) | ((with_reducible refine gate_callee (f := 8) rfl ?_); refine goesL_ (some 129) rfl rfl Tryd.func8 (by kernel_rfl) rfl #[.string (⟨#[109, 97, 100, 100]⟩ : ByteArray), .int .u32 a0, .int .u32 a1, .int .u32 0, .int .u32 0] rfl (by (try simp only [List.map_toArray, List.map_cons, List.map_nil]); first | done | rfl | (simp only [List.length_drop, List.length_take]; rfl)) ?_; (with_reducible refine (wide_Do.calls (⟨#[109, 97, 100, 100]⟩ : ByteArray) a0 a1 0 0 t160 t161 _ ?side1 A27.out).mono ?_); (case side1 => first | exact hL | exact Laid.below hL (by repeat (first | (with_reducible first | exact HB.out | apply below_alloc | apply pw_below_drewN | apply below_drew1) | exact HB.out))); rintro e w40 ⟨rfl, hb⟩; refine ⟨_, rfl, ?_⟩; have n0_ := Aside0.mk (below_step (by repeat (first | (with_reducible first | exact HB.out | apply below_alloc | apply pw_below_drewN | apply below_drew1) | exact HB.out)) hb); clear HB; have HB := n0_; clear n0_; (try clear hb); (try clear hb2); (try clear hk); (try clear hi)) | (go_at_call 12; (with_reducible refine (ferrylaw10_awake.calls  t162 _ ?side1 A34.out).mono ?_); (case side1 => first | exact hL | exact Laid.below hL (by repeat (first | (with_reducible first | exact HB.out | apply below_alloc | apply pw_below_drewN | apply below_drew1) | exact HB.out))); rintro e w41 ⟨rfl, hb⟩; have n0_ := Aside0.mk (below_step (by repeat (first | (with_reducible first | exact HB.out | apply below_alloc | apply pw_below_drewN | apply below_drew1) | exact HB.out)) hb); clear HB; have HB := n0_; clear n0_; (try clear hb); (try clear hb2); (try clear hk); (try clear hi)))
                    go_ret
                    exact ⟨by first | rfl | (simp [errW_none, errW_some] <;> rfl) | (simp [*, errW_none, errW_some] <;> rfl), by repeat (first | (with_reducible first | exact HB.out | apply below_alloc | apply pw_below_drewN | apply below_drew1) | exact HB.out)⟩
                  · rw [if_neg c33] at H
                    have c33b0 : (t159 == t161) = false := beq_eq_false_iff_ne.mpr c33
                    have c33b1 : (t159 != t161) = true := bne_iff_ne.mpr c33
                    obtain rfl := Option.some.inj H
                    go_wp2_with (first | ((with_reducible refine gate_callee (f := 8) rfl ?_); refine goesL_ (some 93) rfl rfl Tryd.func8 (by kernel_rfl) rfl #[.string (⟨#[109, 97, 100, 100]⟩ : ByteArray), .int .u32 a0, .int .u32 a1, .int .u32 a2, .int .u32 a3] rfl (by (try simp only [List.map_toArray, List.map_cons, List.map_nil]); first | done | rfl | (simp only [List.length_drop, List.length_take]; rfl)) ?_; (with_reducible refine (wide_Do.calls (⟨#[109, 97, 100, 100]⟩ : ByteArray) a0 a1 a2 a3 t150 t151 _ ?side1 A22.out).mono ?_); (case side1 => first | exact hL | exact Laid.below hL (by repeat (first | (with_reducible first | exact HB.out | apply below_alloc | apply pw_below_drewN | apply below_drew1) | exact HB.out))); rintro e w42 ⟨rfl, hb⟩; refine ⟨_, rfl, ?_⟩; have n0_ := Aside0.mk (below_step (by repeat (first | (with_reducible first | exact HB.out | apply below_alloc | apply pw_below_drewN | apply below_drew1) | exact HB.out)) hb); clear HB; have HB := n0_; clear n0_; (try clear hb); (try clear hb2); (try clear hk); (try clear hi)) | ((with_reducible refine gate_callee (f := 8) rfl ?_); refine goesL_ (some 101) rfl rfl Tryd.func8 (by kernel_rfl) rfl #[.string (⟨#[109, 115, 117, 98]⟩ : ByteArray), .int .u32 a0, .int .u32 a1, .int .u32 t150, .int .u32 t151] rfl (by (try simp only [List.map_toArray, List.map_cons, List.map_nil]); first | done | rfl | (simp only [List.length_drop, List.length_take]; rfl)) ?_; (with_reducible refine (wide_Do.calls (⟨#[109, 115, 117, 98]⟩ : ByteArray) a0 a1 t150 t151 t152 t153 _ ?side1 A23.out).mono ?_); (case side1 => first | exact hL | exact Laid.below hL (by repeat (first | (with_reducible first | exact HB.out | apply below_alloc | apply pw_below_drewN | apply below_drew1) | exact HB.out))); rintro e w43 ⟨rfl, hb⟩; refine ⟨_, rfl, ?_⟩; have n0_ := Aside0.mk (below_step (by repeat (first | (with_reducible first | exact HB.out | apply below_alloc | apply pw_below_drewN | apply below_drew1) | exact HB.out)) hb); clear HB; have HB := n0_; clear n0_; (try clear hb); (try clear hb2); (try clear hk); (try clear hi)) | ((with_reducible refine gate_callee (f := 8) rfl ?_); refine goesL_ (some 109) rfl rfl Tryd.func8 (by kernel_rfl) rfl #[.string (⟨#[109, 97, 100, 100, 117]⟩ : ByteArray), .int .u32 a0, .int .u32 a1, .int .u32 a2, .int .u32 a3] rfl (by (try simp only [List.map_toArray, List.map_cons, List.map_nil]); first | done | rfl | (simp only [List.length_drop, List.length_take]; rfl)) ?_; (with_reducible refine (wide_Do.calls (⟨#[109, 97, 100, 100, 117]⟩ : ByteArray) a0 a1 a2 a3 t154 t155 _ ?side1 A24.out).mono ?_); (case side1 => first | exact hL | exact Laid.below hL (by repeat (first | (with_reducible first | exact HB.out | apply below_alloc | apply pw_below_drewN | apply below_drew1) | exact HB.out))); rintro e w44 ⟨rfl, hb⟩; refine ⟨_, rfl, ?_⟩; have n0_ := Aside0.mk (below_step (by repeat (first | (with_reducible first | exact HB.out | apply below_alloc | apply pw_below_drewN | apply below_drew1) | exact HB.out)) hb); clear HB; have HB := n0_; clear n0_; (try clear hb); (try clear hb2); (try clear hk); (try clear hi)) | ((with_reducible refine gate_callee (f := 8) rfl ?_); refine goesL_ (some 117) rfl rfl Tryd.func8 (by kernel_rfl) rfl #[.string (⟨#[109, 115, 117, 98, 117]⟩ : ByteArray), .int .u32 a0, .int .u32 a1, .int .u32 t154, .int .u32 t155] rfl (by (try simp only [List.map_toArray, List.map_cons, List.map_nil]); first | done | rfl | (simp only [List.length_drop, List.length_take]; rfl)) ?_; (with_reducible refine (wide_Do.calls (⟨#[109, 115, 117, 98, 117]⟩ : ByteArray) a0 a1 t154 t155 t156 t157 _ ?side1 A25.out).mono ?_); (case side1 => first | exact hL | exact Laid.below hL (by repeat (first | (with_reducible first | exact HB.out | apply below_alloc | apply pw_below_drewN | apply below_drew1) | exact HB.out))); rintro e w45 ⟨rfl, hb⟩; refine ⟨_, rfl, ?_⟩; have n0_ := Aside0.mk (below_step (by repeat (first | (with_reducible first | exact HB.out | apply below_alloc | apply pw_below_drewN | apply below_drew1) | exact HB.out)) hb); clear HB; have HB := n0_; clear n0_; (try clear hb); (try clear hb2); (try clear hk); (try clear hi)) | ((with_reducible refine gate_callee (f := 8) rfl ?_); refine goesL_ (some 123) rfl rfl Tryd.func8 (by kernel_rfl) rfl #[.string (⟨#[109, 117, 108, 116]⟩ : ByteArray), .int .u32 a0, .int .u32 a1, .int .u32 1, .int .u32 2] rfl (by (try simp only [List.map_toArray, List.map_cons, List.map_nil]); first | done | rfl | (simp only [List.length_drop, List.length_take]; rfl)) ?_; (with_reducible refine (wide_Do.calls (⟨#[109, 117, 108, 116]⟩ : ByteArray) a0 a1 1 2 t158 t159 _ ?side1 A26.out).mono ?_); (case side1 => first | exact hL | exact Laid.below hL (by repeat (first | (with_reducible first | exact HB.out | apply below_alloc | apply pw_below_drewN | apply below_drew1) | exact HB.out))); rintro e w46 ⟨rfl, hb⟩; refine ⟨_, rfl, ?_⟩; have n0_ := Aside0.mk (below_step (by repeat (first | (with_reducible first | exact HB.out | apply below_alloc | apply pw_below_drewN | apply below_drew1) | exact HB.out)) hb); clear HB; have HB := n0_; clear n0_; (try clear hb); (try clear hb2); (try clear hk); (try clear hi)) | ((with_reducible refine gate_callee (f := 8) rfl ?_); refine goesL_ (some 129) rfl rfl Tryd.func8 (by kernel_rfl) rfl #[.string (⟨#[109, 97, 100, 100]⟩ : ByteArray), .int .u32 a0, .int .u32 a1, .int .u32 0, .int .u32 0] rfl (by (try simp only [List.map_toArray, List.map_cons, List.map_nil]); first | done | rfl | (simp only [List.length_drop, List.length_take]; rfl)) ?_; (with_reducible refine (wide_Do.calls (⟨#[109, 97, 100, 100]⟩ : ByteArray) a0 a1 0 0 t160 t161 _ ?side1 A27.out).mono ?_); (case side1 => first | exact hL | exact Laid.below hL (by repeat (first | (with_reducible first | exact HB.out | apply below_alloc | apply pw_below_drewN | apply below_drew1) | exact HB.out))); rintro e w47 ⟨rfl, hb⟩; refine ⟨_, rfl, ?_⟩; have n0_ := Aside0.mk (below_step (by repeat (first | (with_reducible first | exact HB.out | apply below_alloc | apply pw_below_drewN | apply below_drew1) | exact HB.out)) hb); clear HB; have HB := n0_; clear n0_; (try clear hb); (try clear hb2); (try clear hk); (try clear hi)))
                    go_ret
                    exact ⟨by first | rfl | (simp [errW_none, errW_some] <;> rfl) | (simp [*, errW_none, errW_some] <;> rfl), by repeat (first | (with_reducible first | exact HB.out | apply below_alloc | apply pw_below_drewN | apply below_drew1) | exact HB.out)⟩
                · rw [if_neg c32] at H
                  have c32b0 : (t158 == t160) = false := beq_eq_false_iff_ne.mpr c32
                  have c32b1 : (t158 != t160) = true := bne_iff_ne.mpr c32
                  obtain rfl := Option.some.inj H
                  go_wp2_with (first | ((with_reducible refine gate_callee (f := 8) rfl ?_); refine goesL_ (some 93) rfl rfl Tryd.func8 (by kernel_rfl) rfl #[.string (⟨#[109, 97, 100, 100]⟩ : ByteArray), .int .u32 a0, .int .u32 a1, .int .u32 a2, .int .u32 a3] rfl (by (try simp only [List.map_toArray, List.map_cons, List.map_nil]); first | done | rfl | (simp only [List.length_drop, List.length_take]; rfl)) ?_; (with_reducible refine (wide_Do.calls (⟨#[109, 97, 100, 100]⟩ : ByteArray) a0 a1 a2 a3 t150 t151 _ ?side1 A22.out).mono ?_); (case side1 => first | exact hL | exact Laid.below hL (by repeat (first | (with_reducible first | exact HB.out | apply below_alloc | apply pw_below_drewN | apply below_drew1) | exact HB.out))); rintro e w48 ⟨rfl, hb⟩; refine ⟨_, rfl, ?_⟩; have n0_ := Aside0.mk (below_step (by repeat (first | (with_reducible first | exact HB.out | apply below_alloc | apply pw_below_drewN | apply below_drew1) | exact HB.out)) hb); clear HB; have HB := n0_; clear n0_; (try clear hb); (try clear hb2); (try clear hk); (try clear hi)) | ((with_reducible refine gate_callee (f := 8) rfl ?_); refine goesL_ (some 101) rfl rfl Tryd.func8 (by kernel_rfl) rfl #[.string (⟨#[109, 115, 117, 98]⟩ : ByteArray), .int .u32 a0, .int .u32 a1, .int .u32 t150, .int .u32 t151] rfl (by (try simp only [List.map_toArray, List.map_cons, List.map_nil]); first | done | rfl | (simp only [List.length_drop, List.length_take]; rfl)) ?_; (with_reducible refine (wide_Do.calls (⟨#[109, 115, 117, 98]⟩ : ByteArray) a0 a1 t150 t151 t152 t153 _ ?side1 A23.out).mono ?_); (case side1 => first | exact hL | exact Laid.below hL (by repeat (first | (with_reducible first | exact HB.out | apply below_alloc | apply pw_below_drewN | apply below_drew1) | exact HB.out))); rintro e w49 ⟨rfl, hb⟩; refine ⟨_, rfl, ?_⟩; have n0_ := Aside0.mk (below_step (by repeat (first | (with_reducible first | exact HB.out | apply below_alloc | apply pw_below_drewN | apply below_drew1) | exact HB.out)) hb); clear HB; have HB := n0_; clear n0_; (try clear hb); (try clear hb2); (try clear hk); (try clear hi)) | ((with_reducible refine gate_callee (f := 8) rfl ?_); refine goesL_ (some 109) rfl rfl Tryd.func8 (by kernel_rfl) rfl #[.string (⟨#[109, 97, 100, 100, 117]⟩ : ByteArray), .int .u32 a0, .int .u32 a1, .int .u32 a2, .int .u32 a3] rfl (by (try simp only [List.map_toArray, List.map_cons, List.map_nil]); first | done | rfl | (simp only [List.length_drop, List.length_take]; rfl)) ?_; (with_reducible refine (wide_Do.calls (⟨#[109, 97, 100, 100, 117]⟩ : ByteArray) a0 a1 a2 a3 t154 t155 _ ?side1 A24.out).mono ?_); (case side1 => first | exact hL | exact Laid.below hL (by repeat (first | (with_reducible first | exact HB.out | apply below_alloc | apply pw_below_drewN | apply below_drew1) | exact HB.out))); rintro e w50 ⟨rfl, hb⟩; refine ⟨_, rfl, ?_⟩; have n0_ := Aside0.mk (below_step (by repeat (first | (with_reducible first | exact HB.out | apply below_alloc | apply pw_below_drewN | apply below_drew1) | exact HB.out)) hb); clear HB; have HB := n0_; clear n0_; (try clear hb); (try clear hb2); (try clear hk); (try clear hi)) | ((with_reducible refine gate_callee (f := 8) rfl ?_); refine goesL_ (some 117) rfl rfl Tryd.func8 (by kernel_rfl) rfl #[.string (⟨#[109, 115, 117, 98, 117]⟩ : ByteArray), .int .u32 a0, .int .u32 a1, .int .u32 t154, .int .u32 t155] rfl (by (try simp only [List.map_toArray, List.map_cons, List.map_nil]); first | done | rfl | (simp only [List.length_drop, List.length_take]; rfl)) ?_; (with_reducible refine (wide_Do.calls (⟨#[109, 115, 117, 98, 117]⟩ : ByteArray) a0 a1 t154 t155 t156 t157 _ ?side1 A25.out).mono ?_); (case side1 => first | exact hL | exact Laid.below hL (by repeat (first | (with_reducible first | exact HB.out | apply below_alloc | apply pw_below_drewN | apply below_drew1) | exact HB.out))); rintro e w51 ⟨rfl, hb⟩; refine ⟨_, rfl, ?_⟩; have n0_ := Aside0.mk (below_step (by repeat (first | (with_reducible first | exact HB.out | apply below_alloc | apply pw_below_drewN | apply below_drew1) | exact HB.out)) hb); clear HB; have HB := n0_; clear n0_; (try clear hb); (try clear hb2); (try clear hk); (try clear hi)) | ((with_reducible refine gate_callee (f := 8) rfl ?_); refine goesL_ (some 123) rfl rfl Tryd.func8 (by kernel_rfl) rfl #[.string (⟨#[109, 117, 108, 116]⟩ : ByteArray), .int .u32 a0, .int .u32 a1, .int .u32 1, .int .u32 2] rfl (by (try simp only [List.map_toArray, List.map_cons, List.map_nil]); first | done | rfl | (simp only [List.length_drop, List.length_take]; rfl)) ?_; (with_reducible refine (wide_Do.calls (⟨#[109, 117, 108, 116]⟩ : ByteArray) a0 a1 1 2 t158 t159 _ ?side1 A26.out).mono ?_); (case side1 => first | exact hL | exact Laid.below hL (by repeat (first | (with_reducible first | exact HB.out | apply below_alloc | apply pw_below_drewN | apply below_drew1) | exact HB.out))); rintro e w52 ⟨rfl, hb⟩; refine ⟨_, rfl, ?_⟩; have n0_ := Aside0.mk (below_step (by repeat (first | (with_reducible first | exact HB.out | apply below_alloc | apply pw_below_drewN | apply below_drew1) | exact HB.out)) hb); clear HB; have HB := n0_; clear n0_; (try clear hb); (try clear hb2); (try clear hk); (try clear hi)) | ((with_reducible refine gate_callee (f := 8) rfl ?_); refine goesL_ (some 129) rfl rfl Tryd.func8 (by kernel_rfl) rfl #[.string (⟨#[109, 97, 100, 100]⟩ : ByteArray), .int .u32 a0, .int .u32 a1, .int .u32 0, .int .u32 0] rfl (by (try simp only [List.map_toArray, List.map_cons, List.map_nil]); first | done | rfl | (simp only [List.length_drop, List.length_take]; rfl)) ?_; (with_reducible refine (wide_Do.calls (⟨#[109, 97, 100, 100]⟩ : ByteArray) a0 a1 0 0 t160 t161 _ ?side1 A27.out).mono ?_); (case side1 => first | exact hL | exact Laid.below hL (by repeat (first | (with_reducible first | exact HB.out | apply below_alloc | apply pw_below_drewN | apply below_drew1) | exact HB.out))); rintro e w53 ⟨rfl, hb⟩; refine ⟨_, rfl, ?_⟩; have n0_ := Aside0.mk (below_step (by repeat (first | (with_reducible first | exact HB.out | apply below_alloc | apply pw_below_drewN | apply below_drew1) | exact HB.out)) hb); clear HB; have HB := n0_; clear n0_; (try clear hb); (try clear hb2); (try clear hk); (try clear hi)))
                  go_ret
                  exact ⟨by first | rfl | (simp [errW_none, errW_some] <;> rfl) | (simp [*, errW_none, errW_some] <;> rfl), by repeat (first | (with_reducible first | exact HB.out | apply below_alloc | apply pw_below_drewN | apply below_drew1) | exact HB.out)⟩
              · rw [if_neg c31] at H
                have c31b0 : (t157 == a3) = false := beq_eq_false_iff_ne.mpr c31
                have c31b1 : (t157 != a3) = true := bne_iff_ne.mpr c31
                obtain rfl := Option.some.inj H
                go_wp2_with (first | ((with_reducible refine gate_callee (f := 8) rfl ?_); refine goesL_ (some 93) rfl rfl Tryd.func8 (by kernel_rfl) rfl #[.string (⟨#[109, 97, 100, 100]⟩ : ByteArray), .int .u32 a0, .int .u32 a1, .int .u32 a2, .int .u32 a3] rfl (by (try simp only [List.map_toArray, List.map_cons, List.map_nil]); first | done | rfl | (simp only [List.length_drop, List.length_take]; rfl)) ?_; (with_reducible refine (wide_Do.calls (⟨#[109, 97, 100, 100]⟩ : ByteArray) a0 a1 a2 a3 t150 t151 _ ?side1 A22.out).mono ?_); (case side1 => first | exact hL | exact Laid.below hL (by repeat (first | (with_reducible first | exact HB.out | apply below_alloc | apply pw_below_drewN | apply below_drew1) | exact HB.out))); rintro e w54 ⟨rfl, hb⟩; refine ⟨_, rfl, ?_⟩; have n0_ := Aside0.mk (below_step (by repeat (first | (with_reducible first | exact HB.out | apply below_alloc | apply pw_below_drewN | apply below_drew1) | exact HB.out)) hb); clear HB; have HB := n0_; clear n0_; (try clear hb); (try clear hb2); (try clear hk); (try clear hi)) | ((with_reducible refine gate_callee (f := 8) rfl ?_); refine goesL_ (some 101) rfl rfl Tryd.func8 (by kernel_rfl) rfl #[.string (⟨#[109, 115, 117, 98]⟩ : ByteArray), .int .u32 a0, .int .u32 a1, .int .u32 t150, .int .u32 t151] rfl (by (try simp only [List.map_toArray, List.map_cons, List.map_nil]); first | done | rfl | (simp only [List.length_drop, List.length_take]; rfl)) ?_; (with_reducible refine (wide_Do.calls (⟨#[109, 115, 117, 98]⟩ : ByteArray) a0 a1 t150 t151 t152 t153 _ ?side1 A23.out).mono ?_); (case side1 => first | exact hL | exact Laid.below hL (by repeat (first | (with_reducible first | exact HB.out | apply below_alloc | apply pw_below_drewN | apply below_drew1) | exact HB.out))); rintro e w55 ⟨rfl, hb⟩; refine ⟨_, rfl, ?_⟩; have n0_ := Aside0.mk (below_step (by repeat (first | (with_reducible first | exact HB.out | apply below_alloc | apply pw_below_drewN | apply below_drew1) | exact HB.out)) hb); clear HB; have HB := n0_; clear n0_; (try clear hb); (try clear hb2); (try clear hk); (try clear hi)) | ((with_reducible refine gate_callee (f := 8) rfl ?_); refine goesL_ (some 109) rfl rfl Tryd.func8 (by kernel_rfl) rfl #[.string (⟨#[109, 97, 100, 100, 117]⟩ : ByteArray), .int .u32 a0, .int .u32 a1, .int .u32 a2, .int .u32 a3] rfl (by (try simp only [List.map_toArray, List.map_cons, List.map_nil]); first | done | rfl | (simp only [List.length_drop, List.length_take]; rfl)) ?_; (with_reducible refine (wide_Do.calls (⟨#[109, 97, 100, 100, 117]⟩ : ByteArray) a0 a1 a2 a3 t154 t155 _ ?side1 A24.out).mono ?_); (case side1 => first | exact hL | exact Laid.below hL (by repeat (first | (with_reducible first | exact HB.out | apply below_alloc | apply pw_below_drewN | apply below_drew1) | exact HB.out))); rintro e w56 ⟨rfl, hb⟩; refine ⟨_, rfl, ?_⟩; have n0_ := Aside0.mk (below_step (by repeat (first | (with_reducible first | exact HB.out | apply below_alloc | apply pw_below_drewN | apply below_drew1) | exact HB.out)) hb); clear HB; have HB := n0_; clear n0_; (try clear hb); (try clear hb2); (try clear hk); (try clear hi)) | ((with_reducible refine gate_callee (f := 8) rfl ?_); refine goesL_ (some 117) rfl rfl Tryd.func8 (by kernel_rfl) rfl #[.string (⟨#[109, 115, 117, 98, 117]⟩ : ByteArray), .int .u32 a0, .int .u32 a1, .int .u32 t154, .int .u32 t155] rfl (by (try simp only [List.map_toArray, List.map_cons, List.map_nil]); first | done | rfl | (simp only [List.length_drop, List.length_take]; rfl)) ?_; (with_reducible refine (wide_Do.calls (⟨#[109, 115, 117, 98, 117]⟩ : ByteArray) a0 a1 t154 t155 t156 t157 _ ?side1 A25.out).mono ?_); (case side1 => first | exact hL | exact Laid.below hL (by repeat (first | (with_reducible first | exact HB.out | apply below_alloc | apply pw_below_drewN | apply below_drew1) | exact HB.out))); rintro e w57 ⟨rfl, hb⟩; refine ⟨_, rfl, ?_⟩; have n0_ := Aside0.mk (below_step (by repeat (first | (with_reducible first | exact HB.out | apply below_alloc | apply pw_below_drewN | apply below_drew1) | exact HB.out)) hb); clear HB; have HB := n0_; clear n0_; (try clear hb); (try clear hb2); (try clear hk); (try clear hi)) | ((with_reducible refine gate_callee (f := 8) rfl ?_); refine goesL_ (some 123) rfl rfl Tryd.func8 (by kernel_rfl) rfl #[.string (⟨#[109, 117, 108, 116]⟩ : ByteArray), .int .u32 a0, .int .u32 a1, .int .u32 1, .int .u32 2] rfl (by (try simp only [List.map_toArray, List.map_cons, List.map_nil]); first | done | rfl | (simp only [List.length_drop, List.length_take]; rfl)) ?_; (with_reducible refine (wide_Do.calls (⟨#[109, 117, 108, 116]⟩ : ByteArray) a0 a1 1 2 t158 t159 _ ?side1 A26.out).mono ?_); (case side1 => first | exact hL | exact Laid.below hL (by repeat (first | (with_reducible first | exact HB.out | apply below_alloc | apply pw_below_drewN | apply below_drew1) | exact HB.out))); rintro e w58 ⟨rfl, hb⟩; refine ⟨_, rfl, ?_⟩; have n0_ := Aside0.mk (below_step (by repeat (first | (with_reducible first | exact HB.out | apply below_alloc | apply pw_below_drewN | apply below_drew1) | exact HB.out)) hb); clear HB; have HB := n0_; clear n0_; (try clear hb); (try clear hb2); (try clear hk); (try clear hi)) | ((with_reducible refine gate_callee (f := 8) rfl ?_); refine goesL_ (some 129) rfl rfl Tryd.func8 (by kernel_rfl) rfl #[.string (⟨#[109, 97, 100, 100]⟩ : ByteArray), .int .u32 a0, .int .u32 a1, .int .u32 0, .int .u32 0] rfl (by (try simp only [List.map_toArray, List.map_cons, List.map_nil]); first | done | rfl | (simp only [List.length_drop, List.length_take]; rfl)) ?_; (with_reducible refine (wide_Do.calls (⟨#[109, 97, 100, 100]⟩ : ByteArray) a0 a1 0 0 t160 t161 _ ?side1 A27.out).mono ?_); (case side1 => first | exact hL | exact Laid.below hL (by repeat (first | (with_reducible first | exact HB.out | apply below_alloc | apply pw_below_drewN | apply below_drew1) | exact HB.out))); rintro e w59 ⟨rfl, hb⟩; refine ⟨_, rfl, ?_⟩; have n0_ := Aside0.mk (below_step (by repeat (first | (with_reducible first | exact HB.out | apply below_alloc | apply pw_below_drewN | apply below_drew1) | exact HB.out)) hb); clear HB; have HB := n0_; clear n0_; (try clear hb); (try clear hb2); (try clear hk); (try clear hi)))
                go_ret
                exact ⟨by first | rfl | (simp [errW_none, errW_some] <;> rfl) | (simp [*, errW_none, errW_some] <;> rfl), by repeat (first | (with_reducible first | exact HB.out | apply below_alloc | apply pw_below_drewN | apply below_drew1) | exact HB.out)⟩
            · rw [if_neg c30] at H
              have c30b0 : (t156 == a2) = false := beq_eq_false_iff_ne.mpr c30
              have c30b1 : (t156 != a2) = true := bne_iff_ne.mpr c30
              obtain rfl := Option.some.inj H
              go_wp2_with (first | ((with_reducible refine gate_callee (f := 8) rfl ?_); refine goesL_ (some 93) rfl rfl Tryd.func8 (by kernel_rfl) rfl #[.string (⟨#[109, 97, 100, 100]⟩ : ByteArray), .int .u32 a0, .int .u32 a1, .int .u32 a2, .int .u32 a3] rfl (by (try simp only [List.map_toArray, List.map_cons, List.map_nil]); first | done | rfl | (simp only [List.length_drop, List.length_take]; rfl)) ?_; (with_reducible refine (wide_Do.calls (⟨#[109, 97, 100, 100]⟩ : ByteArray) a0 a1 a2 a3 t150 t151 _ ?side1 A22.out).mono ?_); (case side1 => first | exact hL | exact Laid.below hL (by repeat (first | (with_reducible first | exact HB.out | apply below_alloc | apply pw_below_drewN | apply below_drew1) | exact HB.out))); rintro e w60 ⟨rfl, hb⟩; refine ⟨_, rfl, ?_⟩; have n0_ := Aside0.mk (below_step (by repeat (first | (with_reducible first | exact HB.out | apply below_alloc | apply pw_below_drewN | apply below_drew1) | exact HB.out)) hb); clear HB; have HB := n0_; clear n0_; (try clear hb); (try clear hb2); (try clear hk); (try clear hi)) | ((with_reducible refine gate_callee (f := 8) rfl ?_); refine goesL_ (some 101) rfl rfl Tryd.func8 (by kernel_rfl) rfl #[.string (⟨#[109, 115, 117, 98]⟩ : ByteArray), .int .u32 a0, .int .u32 a1, .int .u32 t150, .int .u32 t151] rfl (by (try simp only [List.map_toArray, List.map_cons, List.map_nil]); first | done | rfl | (simp only [List.length_drop, List.length_take]; rfl)) ?_; (with_reducible refine (wide_Do.calls (⟨#[109, 115, 117, 98]⟩ : ByteArray) a0 a1 t150 t151 t152 t153 _ ?side1 A23.out).mono ?_); (case side1 => first | exact hL | exact Laid.below hL (by repeat (first | (with_reducible first | exact HB.out | apply below_alloc | apply pw_below_drewN | apply below_drew1) | exact HB.out))); rintro e w61 ⟨rfl, hb⟩; refine ⟨_, rfl, ?_⟩; have n0_ := Aside0.mk (below_step (by repeat (first | (with_reducible first | exact HB.out | apply below_alloc | apply pw_below_drewN | apply below_drew1) | exact HB.out)) hb); clear HB; have HB := n0_; clear n0_; (try clear hb); (try clear hb2); (try clear hk); (try clear hi)) | ((with_reducible refine gate_callee (f := 8) rfl ?_); refine goesL_ (some 109) rfl rfl Tryd.func8 (by kernel_rfl) rfl #[.string (⟨#[109, 97, 100, 100, 117]⟩ : ByteArray), .int .u32 a0, .int .u32 a1, .int .u32 a2, .int .u32 a3] rfl (by (try simp only [List.map_toArray, List.map_cons, List.map_nil]); first | done | rfl | (simp only [List.length_drop, List.length_take]; rfl)) ?_; (with_reducible refine (wide_Do.calls (⟨#[109, 97, 100, 100, 117]⟩ : ByteArray) a0 a1 a2 a3 t154 t155 _ ?side1 A24.out).mono ?_); (case side1 => first | exact hL | exact Laid.below hL (by repeat (first | (with_reducible first | exact HB.out | apply below_alloc | apply pw_below_drewN | apply below_drew1) | exact HB.out))); rintro e w62 ⟨rfl, hb⟩; refine ⟨_, rfl, ?_⟩; have n0_ := Aside0.mk (below_step (by repeat (first | (with_reducible first | exact HB.out | apply below_alloc | apply pw_below_drewN | apply below_drew1) | exact HB.out)) hb); clear HB; have HB := n0_; clear n0_; (try clear hb); (try clear hb2); (try clear hk); (try clear hi)) | ((with_reducible refine gate_callee (f := 8) rfl ?_); refine goesL_ (some 117) rfl rfl Tryd.func8 (by kernel_rfl) rfl #[.string (⟨#[109, 115, 117, 98, 117]⟩ : ByteArray), .int .u32 a0, .int .u32 a1, .int .u32 t154, .int .u32 t155] rfl (by (try simp only [List.map_toArray, List.map_cons, List.map_nil]); first | done | rfl | (simp only [List.length_drop, List.length_take]; rfl)) ?_; (with_reducible refine (wide_Do.calls (⟨#[109, 115, 117, 98, 117]⟩ : ByteArray) a0 a1 t154 t155 t156 t157 _ ?side1 A25.out).mono ?_); (case side1 => first | exact hL | exact Laid.below hL (by repeat (first | (with_reducible first | exact HB.out | apply below_alloc | apply pw_below_drewN | apply below_drew1) | exact HB.out))); rintro e w63 ⟨rfl, hb⟩; refine ⟨_, rfl, ?_⟩; have n0_ := Aside0.mk (below_step (by repeat (first | (with_reducible first | exact HB.out | apply below_alloc | apply pw_below_drewN | apply below_drew1) | exact HB.out)) hb); clear HB; have HB := n0_; clear n0_; (try clear hb); (try clear hb2); (try clear hk); (try clear hi)) | ((with_reducible refine gate_callee (f := 8) rfl ?_); refine goesL_ (some 123) rfl rfl Tryd.func8 (by kernel_rfl) rfl #[.string (⟨#[109, 117, 108, 116]⟩ : ByteArray), .int .u32 a0, .int .u32 a1, .int .u32 1, .int .u32 2] rfl (by (try simp only [List.map_toArray, List.map_cons, List.map_nil]); first | done | rfl | (simp only [List.length_drop, List.length_take]; rfl)) ?_; (with_reducible refine (wide_Do.calls (⟨#[109, 117, 108, 116]⟩ : ByteArray) a0 a1 1 2 t158 t159 _ ?side1 A26.out).mono ?_); (case side1 => first | exact hL | exact Laid.below hL (by repeat (first | (with_reducible first | exact HB.out | apply below_alloc | apply pw_below_drewN | apply below_drew1) | exact HB.out))); rintro e w64 ⟨rfl, hb⟩; refine ⟨_, rfl, ?_⟩; have n0_ := Aside0.mk (below_step (by repeat (first | (with_reducible first | exact HB.out | apply below_alloc | apply pw_below_drewN | apply below_drew1) | exact HB.out)) hb); clear HB; have HB := n0_; clear n0_; (try clear hb); (try clear hb2); (try clear hk); (try clear hi)) | ((with_reducible refine gate_callee (f := 8) rfl ?_); refine goesL_ (some 129) rfl rfl Tryd.func8 (by kernel_rfl) rfl #[.string (⟨#[109, 97, 100, 100]⟩ : ByteArray), .int .u32 a0, .int .u32 a1, .int .u32 0, .int .u32 0] rfl (by (try simp only [List.map_toArray, List.map_cons, List.map_nil]); first | done | rfl | (simp only [List.length_drop, List.length_take]; rfl)) ?_; (with_reducible refine (wide_Do.calls (⟨#[109, 97, 100, 100]⟩ : ByteArray) a0 a1 0 0 t160 t161 _ ?side1 A27.out).mono ?_); (case side1 => first | exact hL | exact Laid.below hL (by repeat (first | (with_reducible first | exact HB.out | apply below_alloc | apply pw_below_drewN | apply below_drew1) | exact HB.out))); rintro e w65 ⟨rfl, hb⟩; refine ⟨_, rfl, ?_⟩; have n0_ := Aside0.mk (below_step (by repeat (first | (with_reducible first | exact HB.out | apply below_alloc | apply pw_below_drewN | apply below_drew1) | exact HB.out)) hb); clear HB; have HB := n0_; clear n0_; (try clear hb); (try clear hb2); (try clear hk); (try clear hi)))
              go_ret
              exact ⟨by first | rfl | (simp [errW_none, errW_some] <;> rfl) | (simp [*, errW_none, errW_some] <;> rfl), by repeat (first | (with_reducible first | exact HB.out | apply below_alloc | apply pw_below_drewN | apply below_drew1) | exact HB.out)⟩
          · rw [if_neg c29] at H
            have c29b0 : (t153 == a3) = false := beq_eq_false_iff_ne.mpr c29
            have c29b1 : (t153 != a3) = true := bne_iff_ne.mpr c29
            obtain rfl := Option.some.inj H
            go_wp2_with (first | ((with_reducible refine gate_callee (f := 8) rfl ?_); refine goesL_ (some 93) rfl rfl Tryd.func8 (by kernel_rfl) rfl #[.string (⟨#[109, 97, 100, 100]⟩ : ByteArray), .int .u32 a0, .int .u32 a1, .int .u32 a2, .int .u32 a3] rfl (by (try simp only [List.map_toArray, List.map_cons, List.map_nil]); first | done | rfl | (simp only [List.length_drop, List.length_take]; rfl)) ?_; (with_reducible refine (wide_Do.calls (⟨#[109, 97, 100, 100]⟩ : ByteArray) a0 a1 a2 a3 t150 t151 _ ?side1 A22.out).mono ?_); (case side1 => first | exact hL | exact Laid.below hL (by repeat (first | (with_reducible first | exact HB.out | apply below_alloc | apply pw_below_drewN | apply below_drew1) | exact HB.out))); rintro e w66 ⟨rfl, hb⟩; refine ⟨_, rfl, ?_⟩; have n0_ := Aside0.mk (below_step (by repeat (first | (with_reducible first | exact HB.out | apply below_alloc | apply pw_below_drewN | apply below_drew1) | exact HB.out)) hb); clear HB; have HB := n0_; clear n0_; (try clear hb); (try clear hb2); (try clear hk); (try clear hi)) | ((with_reducible refine gate_callee (f := 8) rfl ?_); refine goesL_ (some 101) rfl rfl Tryd.func8 (by kernel_rfl) rfl #[.string (⟨#[109, 115, 117, 98]⟩ : ByteArray), .int .u32 a0, .int .u32 a1, .int .u32 t150, .int .u32 t151] rfl (by (try simp only [List.map_toArray, List.map_cons, List.map_nil]); first | done | rfl | (simp only [List.length_drop, List.length_take]; rfl)) ?_; (with_reducible refine (wide_Do.calls (⟨#[109, 115, 117, 98]⟩ : ByteArray) a0 a1 t150 t151 t152 t153 _ ?side1 A23.out).mono ?_); (case side1 => first | exact hL | exact Laid.below hL (by repeat (first | (with_reducible first | exact HB.out | apply below_alloc | apply pw_below_drewN | apply below_drew1) | exact HB.out))); rintro e w67 ⟨rfl, hb⟩; refine ⟨_, rfl, ?_⟩; have n0_ := Aside0.mk (below_step (by repeat (first | (with_reducible first | exact HB.out | apply below_alloc | apply pw_below_drewN | apply below_drew1) | exact HB.out)) hb); clear HB; have HB := n0_; clear n0_; (try clear hb); (try clear hb2); (try clear hk); (try clear hi)) | ((with_reducible refine gate_callee (f := 8) rfl ?_); refine goesL_ (some 109) rfl rfl Tryd.func8 (by kernel_rfl) rfl #[.string (⟨#[109, 97, 100, 100, 117]⟩ : ByteArray), .int .u32 a0, .int .u32 a1, .int .u32 a2, .int .u32 a3] rfl (by (try simp only [List.map_toArray, List.map_cons, List.map_nil]); first | done | rfl | (simp only [List.length_drop, List.length_take]; rfl)) ?_; (with_reducible refine (wide_Do.calls (⟨#[109, 97, 100, 100, 117]⟩ : ByteArray) a0 a1 a2 a3 t154 t155 _ ?side1 A24.out).mono ?_); (case side1 => first | exact hL | exact Laid.below hL (by repeat (first | (with_reducible first | exact HB.out | apply below_alloc | apply pw_below_drewN | apply below_drew1) | exact HB.out))); rintro e w68 ⟨rfl, hb⟩; refine ⟨_, rfl, ?_⟩; have n0_ := Aside0.mk (below_step (by repeat (first | (with_reducible first | exact HB.out | apply below_alloc | apply pw_below_drewN | apply below_drew1) | exact HB.out)) hb); clear HB; have HB := n0_; clear n0_; (try clear hb); (try clear hb2); (try clear hk); (try clear hi)) | ((with_reducible refine gate_callee (f := 8) rfl ?_); refine goesL_ (some 117) rfl rfl Tryd.func8 (by kernel_rfl) rfl #[.string (⟨#[109, 115, 117, 98, 117]⟩ : ByteArray), .int .u32 a0, .int .u32 a1, .int .u32 t154, .int .u32 t155] rfl (by (try simp only [List.map_toArray, List.map_cons, List.map_nil]); first | done | rfl | (simp only [List.length_drop, List.length_take]; rfl)) ?_; (with_reducible refine (wide_Do.calls (⟨#[109, 115, 117, 98, 117]⟩ : ByteArray) a0 a1 t154 t155 t156 t157 _ ?side1 A25.out).mono ?_); (case side1 => first | exact hL | exact Laid.below hL (by repeat (first | (with_reducible first | exact HB.out | apply below_alloc | apply pw_below_drewN | apply below_drew1) | exact HB.out))); rintro e w69 ⟨rfl, hb⟩; refine ⟨_, rfl, ?_⟩; have n0_ := Aside0.mk (below_step (by repeat (first | (with_reducible first | exact HB.out | apply below_alloc | apply pw_below_drewN | apply below_drew1) | exact HB.out)) hb); clear HB; have HB := n0_; clear n0_; (try clear hb); (try clear hb2); (try clear hk); (try clear hi)) | ((with_reducible refine gate_callee (f := 8) rfl ?_); refine goesL_ (some 123) rfl rfl Tryd.func8 (by kernel_rfl) rfl #[.string (⟨#[109, 117, 108, 116]⟩ : ByteArray), .int .u32 a0, .int .u32 a1, .int .u32 1, .int .u32 2] rfl (by (try simp only [List.map_toArray, List.map_cons, List.map_nil]); first | done | rfl | (simp only [List.length_drop, List.length_take]; rfl)) ?_; (with_reducible refine (wide_Do.calls (⟨#[109, 117, 108, 116]⟩ : ByteArray) a0 a1 1 2 t158 t159 _ ?side1 A26.out).mono ?_); (case side1 => first | exact hL | exact Laid.below hL (by repeat (first | (with_reducible first | exact HB.out | apply below_alloc | apply pw_below_drewN | apply below_drew1) | exact HB.out))); rintro e w70 ⟨rfl, hb⟩; refine ⟨_, rfl, ?_⟩; have n0_ := Aside0.mk (below_step (by repeat (first | (with_reducible first | exact HB.out | apply below_alloc | apply pw_below_drewN | apply below_drew1) | exact HB.out)) hb); clear HB; have HB := n0_; clear n0_; (try clear hb); (try clear hb2); (try clear hk); (try clear hi)) | ((with_reducible refine gate_callee (f := 8) rfl ?_); refine goesL_ (some 129) rfl rfl Tryd.func8 (by kernel_rfl) rfl #[.string (⟨#[109, 97, 100, 100]⟩ : ByteArray), .int .u32 a0, .int .u32 a1, .int .u32 0, .int .u32 0] rfl (by (try simp only [List.map_toArray, List.map_cons, List.map_nil]); first | done | rfl | (simp only [List.length_drop, List.length_take]; rfl)) ?_; (with_reducible refine (wide_Do.calls (⟨#[109, 97, 100, 100]⟩ : ByteArray) a0 a1 0 0 t160 t161 _ ?side1 A27.out).mono ?_); (case side1 => first | exact hL | exact Laid.below hL (by repeat (first | (with_reducible first | exact HB.out | apply below_alloc | apply pw_below_drewN | apply below_drew1) | exact HB.out))); rintro e w71 ⟨rfl, hb⟩; refine ⟨_, rfl, ?_⟩; have n0_ := Aside0.mk (below_step (by repeat (first | (with_reducible first | exact HB.out | apply below_alloc | apply pw_below_drewN | apply below_drew1) | exact HB.out)) hb); clear HB; have HB := n0_; clear n0_; (try clear hb); (try clear hb2); (try clear hk); (try clear hi)))
            go_ret
            exact ⟨by first | rfl | (simp [errW_none, errW_some] <;> rfl) | (simp [*, errW_none, errW_some] <;> rfl), by repeat (first | (with_reducible first | exact HB.out | apply below_alloc | apply pw_below_drewN | apply below_drew1) | exact HB.out)⟩
        · rw [if_neg c28] at H
          have c28b0 : (t152 == a2) = false := beq_eq_false_iff_ne.mpr c28
          have c28b1 : (t152 != a2) = true := bne_iff_ne.mpr c28
          obtain rfl := Option.some.inj H
          go_wp2_with (first | ((with_reducible refine gate_callee (f := 8) rfl ?_); refine goesL_ (some 93) rfl rfl Tryd.func8 (by kernel_rfl) rfl #[.string (⟨#[109, 97, 100, 100]⟩ : ByteArray), .int .u32 a0, .int .u32 a1, .int .u32 a2, .int .u32 a3] rfl (by (try simp only [List.map_toArray, List.map_cons, List.map_nil]); first | done | rfl | (simp only [List.length_drop, List.length_take]; rfl)) ?_; (with_reducible refine (wide_Do.calls (⟨#[109, 97, 100, 100]⟩ : ByteArray) a0 a1 a2 a3 t150 t151 _ ?side1 A22.out).mono ?_); (case side1 => first | exact hL | exact Laid.below hL (by repeat (first | (with_reducible first | exact HB.out | apply below_alloc | apply pw_below_drewN | apply below_drew1) | exact HB.out))); rintro e w72 ⟨rfl, hb⟩; refine ⟨_, rfl, ?_⟩; have n0_ := Aside0.mk (below_step (by repeat (first | (with_reducible first | exact HB.out | apply below_alloc | apply pw_below_drewN | apply below_drew1) | exact HB.out)) hb); clear HB; have HB := n0_; clear n0_; (try clear hb); (try clear hb2); (try clear hk); (try clear hi)) | ((with_reducible refine gate_callee (f := 8) rfl ?_); refine goesL_ (some 101) rfl rfl Tryd.func8 (by kernel_rfl) rfl #[.string (⟨#[109, 115, 117, 98]⟩ : ByteArray), .int .u32 a0, .int .u32 a1, .int .u32 t150, .int .u32 t151] rfl (by (try simp only [List.map_toArray, List.map_cons, List.map_nil]); first | done | rfl | (simp only [List.length_drop, List.length_take]; rfl)) ?_; (with_reducible refine (wide_Do.calls (⟨#[109, 115, 117, 98]⟩ : ByteArray) a0 a1 t150 t151 t152 t153 _ ?side1 A23.out).mono ?_); (case side1 => first | exact hL | exact Laid.below hL (by repeat (first | (with_reducible first | exact HB.out | apply below_alloc | apply pw_below_drewN | apply below_drew1) | exact HB.out))); rintro e w73 ⟨rfl, hb⟩; refine ⟨_, rfl, ?_⟩; have n0_ := Aside0.mk (below_step (by repeat (first | (with_reducible first | exact HB.out | apply below_alloc | apply pw_below_drewN | apply below_drew1) | exact HB.out)) hb); clear HB; have HB := n0_; clear n0_; (try clear hb); (try clear hb2); (try clear hk); (try clear hi)) | ((with_reducible refine gate_callee (f := 8) rfl ?_); refine goesL_ (some 109) rfl rfl Tryd.func8 (by kernel_rfl) rfl #[.string (⟨#[109, 97, 100, 100, 117]⟩ : ByteArray), .int .u32 a0, .int .u32 a1, .int .u32 a2, .int .u32 a3] rfl (by (try simp only [List.map_toArray, List.map_cons, List.map_nil]); first | done | rfl | (simp only [List.length_drop, List.length_take]; rfl)) ?_; (with_reducible refine (wide_Do.calls (⟨#[109, 97, 100, 100, 117]⟩ : ByteArray) a0 a1 a2 a3 t154 t155 _ ?side1 A24.out).mono ?_); (case side1 => first | exact hL | exact Laid.below hL (by repeat (first | (with_reducible first | exact HB.out | apply below_alloc | apply pw_below_drewN | apply below_drew1) | exact HB.out))); rintro e w74 ⟨rfl, hb⟩; refine ⟨_, rfl, ?_⟩; have n0_ := Aside0.mk (below_step (by repeat (first | (with_reducible first | exact HB.out | apply below_alloc | apply pw_below_drewN | apply below_drew1) | exact HB.out)) hb); clear HB; have HB := n0_; clear n0_; (try clear hb); (try clear hb2); (try clear hk); (try clear hi)) | ((with_reducible refine gate_callee (f := 8) rfl ?_); refine goesL_ (some 117) rfl rfl Tryd.func8 (by kernel_rfl) rfl #[.string (⟨#[109, 115, 117, 98, 117]⟩ : ByteArray), .int .u32 a0, .int .u32 a1, .int .u32 t154, .int .u32 t155] rfl (by (try simp only [List.map_toArray, List.map_cons, List.map_nil]); first | done | rfl | (simp only [List.length_drop, List.length_take]; rfl)) ?_; (with_reducible refine (wide_Do.calls (⟨#[109, 115, 117, 98, 117]⟩ : ByteArray) a0 a1 t154 t155 t156 t157 _ ?side1 A25.out).mono ?_); (case side1 => first | exact hL | exact Laid.below hL (by repeat (first | (with_reducible first | exact HB.out | apply below_alloc | apply pw_below_drewN | apply below_drew1) | exact HB.out))); rintro e w75 ⟨rfl, hb⟩; refine ⟨_, rfl, ?_⟩; have n0_ := Aside0.mk (below_step (by repeat (first | (with_reducible first | exact HB.out | apply below_alloc | apply pw_below_drewN | apply below_drew1) | exact HB.out)) hb); clear HB; have HB := n0_; clear n0_; (try clear hb); (try clear hb2); (try clear hk); (try clear hi)) | ((with_reducible refine gate_callee (f := 8) rfl ?_); refine goesL_ (some 123) rfl rfl Tryd.func8 (by kernel_rfl) rfl #[.string (⟨#[109, 117, 108, 116]⟩ : ByteArray), .int .u32 a0, .int .u32 a1, .int .u32 1, .int .u32 2] rfl (by (try simp only [List.map_toArray, List.map_cons, List.map_nil]); first | done | rfl | (simp only [List.length_drop, List.length_take]; rfl)) ?_; (with_reducible refine (wide_Do.calls (⟨#[109, 117, 108, 116]⟩ : ByteArray) a0 a1 1 2 t158 t159 _ ?side1 A26.out).mono ?_); (case side1 => first | exact hL | exact Laid.below hL (by repeat (first | (with_reducible first | exact HB.out | apply below_alloc | apply pw_below_drewN | apply below_drew1) | exact HB.out))); rintro e w76 ⟨rfl, hb⟩; refine ⟨_, rfl, ?_⟩; have n0_ := Aside0.mk (below_step (by repeat (first | (with_reducible first | exact HB.out | apply below_alloc | apply pw_below_drewN | apply below_drew1) | exact HB.out)) hb); clear HB; have HB := n0_; clear n0_; (try clear hb); (try clear hb2); (try clear hk); (try clear hi)) | ((with_reducible refine gate_callee (f := 8) rfl ?_); refine goesL_ (some 129) rfl rfl Tryd.func8 (by kernel_rfl) rfl #[.string (⟨#[109, 97, 100, 100]⟩ : ByteArray), .int .u32 a0, .int .u32 a1, .int .u32 0, .int .u32 0] rfl (by (try simp only [List.map_toArray, List.map_cons, List.map_nil]); first | done | rfl | (simp only [List.length_drop, List.length_take]; rfl)) ?_; (with_reducible refine (wide_Do.calls (⟨#[109, 97, 100, 100]⟩ : ByteArray) a0 a1 0 0 t160 t161 _ ?side1 A27.out).mono ?_); (case side1 => first | exact hL | exact Laid.below hL (by repeat (first | (with_reducible first | exact HB.out | apply below_alloc | apply pw_below_drewN | apply below_drew1) | exact HB.out))); rintro e w77 ⟨rfl, hb⟩; refine ⟨_, rfl, ?_⟩; have n0_ := Aside0.mk (below_step (by repeat (first | (with_reducible first | exact HB.out | apply below_alloc | apply pw_below_drewN | apply below_drew1) | exact HB.out)) hb); clear HB; have HB := n0_; clear n0_; (try clear hb); (try clear hb2); (try clear hk); (try clear hi)))
          go_ret
          exact ⟨by first | rfl | (simp [errW_none, errW_some] <;> rfl) | (simp [*, errW_none, errW_some] <;> rfl), by repeat (first | (with_reducible first | exact HB.out | apply below_alloc | apply pw_below_drewN | apply below_drew1) | exact HB.out)⟩

end Go.Proofs.YtommcnppgodhgaaDoor.F
