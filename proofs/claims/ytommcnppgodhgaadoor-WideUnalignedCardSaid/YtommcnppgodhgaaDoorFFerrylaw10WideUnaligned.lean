/- Functions of this seat's program, each as a plain Lean function, and what a call of each comes to. No condition. -/
import Derived.Test.YtommcnppgodhgaaDoorF0
import Derived.Test.YtommcnppgodhgaaDoorFWideLoadLeft
import Derived.Test.YtommcnppgodhgaaDoorFFerrylaw10Awake
import Derived.Test.YtommcnppgodhgaaDoorFWideLoadRight
import Derived.Test.YtommcnppgodhgaaDoorFWideStoreLeft
import Derived.Test.YtommcnppgodhgaaDoorFWideStoreRight
namespace Go.Proofs.YtommcnppgodhgaaDoor.F
open Go.RowKit Go.Proofs.YtommcnppgodhgaaDoorW.PrintWords Go.Proofs.YtommcnppgodhgaaDoorW.PrintLast Go.Proofs.YtommcnppgodhgaaDoorW.PrintMore
attribute [local go_sem] max2_int min2_int max_two min_two max_three min_three max_four min_four   -- for this text's walks alone
set_option linter.unusedVariables false
set_option linter.unusedSimpArgs false

/-! ### ferrylaw10_WideUnaligned: function 7 -/
def ferrylaw10_WideUnaligned.j0 : Nat → Int → Int → Int → Int → Int → Int → Int → Int → Int → Option (Bool)
  | 0, _, _, _, _, _, _, _, _, _ => none
  | k + 1, x0, x1, x2, x9, x10, x11, x12, x13, x14 => (wide_LoadRight.f x12 x13 x14).bind fun t168 => (if t168 = x11 then ((wide_StoreLeft.f x0 x2 x9).bind fun t169 => (if x9 = 0 then (if t169 = x2 then ((wide_StoreRight.f t169 x2 3).bind fun t170 => (if t170 = x2 then ((ferrylaw10_awake.f).bind fun t171 => (some t171)) else (some false))) else (some false)) else ((wide_StoreRight.f x1 x2 x14).bind fun t172 => (if 0 ≤ (IntKind.u64.wrap (32 - (IntKind.u64.wrap (8 * (IntKind.u64.wrap (x9)))))) then (if (Go.bits .or .u64 (IntKind.u64.wrap ((IntKind.u64.wrap (t169)) * 4294967296)) (IntKind.u64.wrap (t172))) = (Go.bits .or .u64 (Go.bits .andNot .u64 x10 (shl .u64 4294967295 (IntKind.u64.wrap (32 - (IntKind.u64.wrap (8 * (IntKind.u64.wrap (x9)))))))) (shl .u64 (IntKind.u64.wrap (x2)) (IntKind.u64.wrap (32 - (IntKind.u64.wrap (8 * (IntKind.u64.wrap (x9)))))))) then ((ferrylaw10_awake.f).bind fun t173 => (some t173)) else (some false)) else (none))))) else (some false))
def ferrylaw10_WideUnaligned.f (k : Nat) (a0 : Int) (a1 : Int) (a2 : Int) (a3 : Int) : Option (Bool) := if 0 ≤ (IntKind.u64.wrap (8 * (IntKind.u64.wrap (wrap64 (Int.tmod a3 4))))) then ((wide_LoadLeft.f a2 a0 (wrap64 (Int.tmod a3 4))).bind fun t167 => (if (wrap64 (Int.tmod a3 4)) = 0 then (ferrylaw10_WideUnaligned.j0 k a0 a1 a2 (wrap64 (Int.tmod a3 4)) (Go.bits .or .u64 (IntKind.u64.wrap ((IntKind.u64.wrap (a0)) * 4294967296)) (IntKind.u64.wrap (a1))) (((shl .u64 (Go.bits .or .u64 (IntKind.u64.wrap ((IntKind.u64.wrap (a0)) * 4294967296)) (IntKind.u64.wrap (a1))) (IntKind.u64.wrap (8 * (IntKind.u64.wrap (wrap64 (Int.tmod a3 4)))))) / 4294967296) % 4294967296) t167 a0 (wrap64 ((wrap64 (Int.tmod a3 4)) + 3))) else (ferrylaw10_WideUnaligned.j0 k a0 a1 a2 (wrap64 (Int.tmod a3 4)) (Go.bits .or .u64 (IntKind.u64.wrap ((IntKind.u64.wrap (a0)) * 4294967296)) (IntKind.u64.wrap (a1))) (((shl .u64 (Go.bits .or .u64 (IntKind.u64.wrap ((IntKind.u64.wrap (a0)) * 4294967296)) (IntKind.u64.wrap (a1))) (IntKind.u64.wrap (8 * (IntKind.u64.wrap (wrap64 (Int.tmod a3 4)))))) / 4294967296) % 4294967296) t167 a1 (wrap64 ((wrap64 (Int.tmod a3 4)) + 3))))) else (none)
theorem ferrylaw10_WideUnaligned.mono_l : ∀ k, (∀ y0 y1 y2 y3 y4 y5 y6 y7 y8, LeO (ferrylaw10_WideUnaligned.j0 k y0 y1 y2 y3 y4 y5 y6 y7 y8) (ferrylaw10_WideUnaligned.j0 (k + 1) y0 y1 y2 y3 y4 y5 y6 y7 y8))
  | 0 => fun _ _ _ _ _ _ _ _ _ r h => by simp [ferrylaw10_WideUnaligned.j0] at h
  | k + 1 => by
    have ih0 := ferrylaw10_WideUnaligned.mono_l k
    · intro y0 y1 y2 y3 y4 y5 y6 y7 y8
      unfold ferrylaw10_WideUnaligned.j0
      repeat' first
      | (with_reducible exact ih0 _ _ _ _ _ _ _ _ _)
      | (with_reducible exact LeO.refl _)
      | (with_reducible exact LeO.none _)
      | (with_reducible refine LeO.ite ?_ ?_)
      | (with_reducible refine LeO.bind ?_ (fun _ => ?_))
      | exact ih0 _ _ _ _ _ _ _ _ _
      | exact LeO.none _
      | refine LeO.ite ?_ ?_
      | refine LeO.bind ?_ (fun _ => ?_)
theorem ferrylaw10_WideUnaligned.mono : ∀ a0 a1 a2 a3 k, LeO (ferrylaw10_WideUnaligned.f k a0 a1 a2 a3) (ferrylaw10_WideUnaligned.f (k + 1) a0 a1 a2 a3) := by
  intro a0 a1 a2 a3 k
  have ih0 := ferrylaw10_WideUnaligned.mono_l k
  unfold ferrylaw10_WideUnaligned.f
  repeat' first
      | (with_reducible exact ih0 _ _ _ _ _ _ _ _ _)
      | (with_reducible exact LeO.refl _)
      | (with_reducible exact LeO.none _)
      | (with_reducible refine LeO.ite ?_ ?_)
      | (with_reducible refine LeO.bind ?_ (fun _ => ?_))
      | exact ih0 _ _ _ _ _ _ _ _ _
      | exact LeO.none _
      | refine LeO.ite ?_ ?_
      | refine LeO.bind ?_ (fun _ => ?_)
set_option maxHeartbeats 8000000 in
set_option maxRecDepth 100000 in
theorem ferrylaw10_WideUnaligned.calls (k : Nat) (a0 : Int) (a1 : Int) (a2 : Int) (a3 : Int) (r : Bool) (w : World) (hL : Laid w) (h : ferrylaw10_WideUnaligned.f k a0 a1 a2 a3 = some r) :
    Calls Tryd.prog 7 #[.int .u32 a0, .int .u32 a1, .int .u32 a2, .int .u8 a3] w fun e w' => e = .returned (.bool r) ∧ Below w.heap.size w w' := by
  have HB := Aside0.mk (Below.refl w.heap.size w)
  have H : (if 0 ≤ (IntKind.u64.wrap (8 * (IntKind.u64.wrap (wrap64 (Int.tmod a3 4))))) then ((wide_LoadLeft.f a2 a0 (wrap64 (Int.tmod a3 4))).bind fun t167 => (if (wrap64 (Int.tmod a3 4)) = 0 then (ferrylaw10_WideUnaligned.j0 k a0 a1 a2 (wrap64 (Int.tmod a3 4)) (Go.bits .or .u64 (IntKind.u64.wrap ((IntKind.u64.wrap (a0)) * 4294967296)) (IntKind.u64.wrap (a1))) (((shl .u64 (Go.bits .or .u64 (IntKind.u64.wrap ((IntKind.u64.wrap (a0)) * 4294967296)) (IntKind.u64.wrap (a1))) (IntKind.u64.wrap (8 * (IntKind.u64.wrap (wrap64 (Int.tmod a3 4)))))) / 4294967296) % 4294967296) t167 a0 (wrap64 ((wrap64 (Int.tmod a3 4)) + 3))) else (ferrylaw10_WideUnaligned.j0 k a0 a1 a2 (wrap64 (Int.tmod a3 4)) (Go.bits .or .u64 (IntKind.u64.wrap ((IntKind.u64.wrap (a0)) * 4294967296)) (IntKind.u64.wrap (a1))) (((shl .u64 (Go.bits .or .u64 (IntKind.u64.wrap ((IntKind.u64.wrap (a0)) * 4294967296)) (IntKind.u64.wrap (a1))) (IntKind.u64.wrap (8 * (IntKind.u64.wrap (wrap64 (Int.tmod a3 4)))))) / 4294967296) % 4294967296) t167 a1 (wrap64 ((wrap64 (Int.tmod a3 4)) + 3))))) else (none)) = some r := h
  clear h
  obtain ⟨ji5, hji5⟩ : ∃ j_ : Int, (IntKind.u64.wrap (8 * (IntKind.u64.wrap (wrap64 (Int.tmod a3 4))))) = j_ := ⟨_, rfl⟩
  replace H : (if 0 ≤ (ji5) then ((wide_LoadLeft.f a2 a0 (wrap64 (Int.tmod a3 4))).bind fun t167 => (if (wrap64 (Int.tmod a3 4)) = 0 then (ferrylaw10_WideUnaligned.j0 k a0 a1 a2 (wrap64 (Int.tmod a3 4)) (Go.bits .or .u64 (IntKind.u64.wrap ((IntKind.u64.wrap (a0)) * 4294967296)) (IntKind.u64.wrap (a1))) (((shl .u64 (Go.bits .or .u64 (IntKind.u64.wrap ((IntKind.u64.wrap (a0)) * 4294967296)) (IntKind.u64.wrap (a1))) (ji5)) / 4294967296) % 4294967296) t167 a0 (wrap64 ((wrap64 (Int.tmod a3 4)) + 3))) else (ferrylaw10_WideUnaligned.j0 k a0 a1 a2 (wrap64 (Int.tmod a3 4)) (Go.bits .or .u64 (IntKind.u64.wrap ((IntKind.u64.wrap (a0)) * 4294967296)) (IntKind.u64.wrap (a1))) (((shl .u64 (Go.bits .or .u64 (IntKind.u64.wrap ((IntKind.u64.wrap (a0)) * 4294967296)) (IntKind.u64.wrap (a1))) (ji5)) / 4294967296) % 4294967296) t167 a1 (wrap64 ((wrap64 (Int.tmod a3 4)) + 3))))) else (none)) = some r := by first | (rw [hji5] at H; exact H) | (simp only [hji5] at H ⊢; exact H)
  by_cases c6 : 0 ≤ (ji5)
  · rw [if_pos c6] at H
    have c6b0 := eq_true c6
    have c6b1 : decide (0 ≤ (ji5)) = true := decide_eq_true c6
    clear c6
    obtain ⟨ji7, hji7⟩ : ∃ j_ : Int, (shl .u64 (Go.bits .or .u64 (IntKind.u64.wrap ((IntKind.u64.wrap (a0)) * 4294967296)) (IntKind.u64.wrap (a1))) (ji5)) = j_ := ⟨_, rfl⟩
    replace H : ((wide_LoadLeft.f a2 a0 (wrap64 (Int.tmod a3 4))).bind fun t167 => (if (wrap64 (Int.tmod a3 4)) = 0 then (ferrylaw10_WideUnaligned.j0 k a0 a1 a2 (wrap64 (Int.tmod a3 4)) (Go.bits .or .u64 (IntKind.u64.wrap ((IntKind.u64.wrap (a0)) * 4294967296)) (IntKind.u64.wrap (a1))) (((ji7) / 4294967296) % 4294967296) t167 a0 (wrap64 ((wrap64 (Int.tmod a3 4)) + 3))) else (ferrylaw10_WideUnaligned.j0 k a0 a1 a2 (wrap64 (Int.tmod a3 4)) (Go.bits .or .u64 (IntKind.u64.wrap ((IntKind.u64.wrap (a0)) * 4294967296)) (IntKind.u64.wrap (a1))) (((ji7) / 4294967296) % 4294967296) t167 a1 (wrap64 ((wrap64 (Int.tmod a3 4)) + 3))))) = some r := by first | (rw [hji7] at H; exact H) | (simp only [hji7] at H ⊢; exact H)
    have hji7_ : (IntKind.u64.wrap ((Go.bits .or .u64 (IntKind.u64.wrap ((IntKind.u64.wrap (a0)) * 4294967296)) (IntKind.u64.wrap (a1))) * 2 ^ min (ji5).toNat 64)) = ji7 := hji7
    have hji7z : (ji5) ≤ 64 → (IntKind.u64.wrap ((Go.bits .or .u64 (IntKind.u64.wrap ((IntKind.u64.wrap (a0)) * 4294967296)) (IntKind.u64.wrap (a1))) * 2 ^ (ji5).toNat)) = ji7 := shl_small hji7
    replace H := Option.bind_eq_some_iff.mp H
    obtain ⟨t167, A80, H⟩ := H
    replace H : (if (wrap64 (Int.tmod a3 4)) = 0 then (ferrylaw10_WideUnaligned.j0 k a0 a1 a2 (wrap64 (Int.tmod a3 4)) (Go.bits .or .u64 (IntKind.u64.wrap ((IntKind.u64.wrap (a0)) * 4294967296)) (IntKind.u64.wrap (a1))) (((ji7) / 4294967296) % 4294967296) t167 a0 (wrap64 ((wrap64 (Int.tmod a3 4)) + 3))) else (ferrylaw10_WideUnaligned.j0 k a0 a1 a2 (wrap64 (Int.tmod a3 4)) (Go.bits .or .u64 (IntKind.u64.wrap ((IntKind.u64.wrap (a0)) * 4294967296)) (IntKind.u64.wrap (a1))) (((ji7) / 4294967296) % 4294967296) t167 a1 (wrap64 ((wrap64 (Int.tmod a3 4)) + 3)))) = some r := H
    have A8 := Aside0.mk A80
    clear A80
    have HC9 := Aside0.mk H
    clear H
    go_enter Tryd.func7, Tryd.ntmps7
    go_upto_if 42 with (first | ((with_reducible refine gate_callee (f := 14) rfl ?_); refine goesL_ (some 37) rfl rfl Tryd.func14 (by kernel_rfl) rfl #[.int .u32 a2, .int .u32 a0, .int .i64 (wrap64 (Int.tmod a3 4))] rfl (by (try simp only [List.map_toArray, List.map_cons, List.map_nil]); first | done | rfl | (simp only [List.length_drop, List.length_take]; rfl)) ?_; (with_reducible refine (wide_LoadLeft.calls a2 a0 (wrap64 (Int.tmod a3 4)) t167 _ A8.out).mono ?_); rintro e w' ⟨rfl, ⟨nd, rfl⟩⟩; refine ⟨_, rfl, ?_⟩))
    (try simp only [Act.put, List.setIfInBounds_toArray, List.set_cons_zero, List.set_cons_succ])
    go_cut [13] (fun v13 wc => ∃ (kq : Nat) (x13_8 : Int), v13 = .int .u32 x13_8 ∧ Aside0 (ferrylaw10_WideUnaligned.j0 kq a0 a1 a2 (wrap64 (Int.tmod a3 4)) (Go.bits .or .u64 (IntKind.u64.wrap ((IntKind.u64.wrap (a0)) * 4294967296)) (IntKind.u64.wrap (a1))) (((ji7) / 4294967296) % 4294967296) t167 x13_8 (wrap64 ((wrap64 (Int.tmod a3 4)) + 3)) = some r) ∧ Aside0 (kq ≤ k) ∧ Aside0 (Below w.heap.size w wc))
    case first =>
      have H := HC9.out
      clear HC9
      by_cases c10 : (wrap64 (Int.tmod a3 4)) = 0
      · rw [if_pos c10] at H
        have c10b0 : ((wrap64 (Int.tmod a3 4)) == 0) = true := beq_iff_eq.mpr c10
        have c10b1 : ((wrap64 (Int.tmod a3 4)) != 0) = false := bne_eq_false_iff_eq.mpr c10
        clear c10
        (first | rw [c10b0] | (simp only [i64_w, i32_w]; rw [c10b0]) | skip)
        have H' := Aside0.mk H
        clear H
        go_wp2
        go_meet
        case rel => exact ⟨_, (a0), (by first | rfl | (simp; done) | (simp [*]; done)), H', ⟨by first | omega | exact Nat.le_refl _⟩, ⟨by repeat (first | (with_reducible first | exact HB.out | apply below_alloc | apply pw_below_drewN | apply below_drew1) | exact HB.out)⟩⟩
      · rw [if_neg c10] at H
        have c10b0 : ((wrap64 (Int.tmod a3 4)) == 0) = false := beq_eq_false_iff_ne.mpr c10
        have c10b1 : ((wrap64 (Int.tmod a3 4)) != 0) = true := bne_iff_ne.mpr c10
        (first | rw [c10b0] | (simp only [i64_w, i32_w]; rw [c10b0]) | skip)
        have H' := Aside0.mk H
        clear H
        go_wp2
        go_meet
        case rel => exact ⟨_, (a1), (by first | rfl | (simp; done) | (simp [*]; done)), H', ⟨by first | omega | exact Nat.le_refl _⟩, ⟨by repeat (first | (with_reducible first | exact HB.out | apply below_alloc | apply pw_below_drewN | apply below_drew1) | exact HB.out)⟩⟩
    case rest =>
      clear HC9
      try clear c1
      try clear p2
      try clear c6
      try clear c6b0
      try clear c6b1
      try clear p6
      try clear c7
      try clear c10
      try clear c10b0
      try clear c10b1
      obtain ⟨kq, x13_8, rfl, HA, HJ8, HB⟩ := hcut
      cases kq with
      | zero => exact absurd HA.out (by simp [ferrylaw10_WideUnaligned.j0])
      | succ kj8 =>
        have H := HA.out
        clear HA
        simp only [ferrylaw10_WideUnaligned.j0] at H
        replace H := Option.bind_eq_some_iff.mp H
        obtain ⟨t168, A110, H⟩ := H
        replace H : (if t168 = (((ji7) / 4294967296) % 4294967296) then ((wide_StoreLeft.f a0 a2 (wrap64 (Int.tmod a3 4))).bind fun t169 => (if (wrap64 (Int.tmod a3 4)) = 0 then (if t169 = a2 then ((wide_StoreRight.f t169 a2 3).bind fun t170 => (if t170 = a2 then ((ferrylaw10_awake.f).bind fun t171 => (some t171)) else (some false))) else (some false)) else ((wide_StoreRight.f a1 a2 (wrap64 ((wrap64 (Int.tmod a3 4)) + 3))).bind fun t172 => (if 0 ≤ (IntKind.u64.wrap (32 - (IntKind.u64.wrap (8 * (IntKind.u64.wrap ((wrap64 (Int.tmod a3 4)))))))) then (if (Go.bits .or .u64 (IntKind.u64.wrap ((IntKind.u64.wrap (t169)) * 4294967296)) (IntKind.u64.wrap (t172))) = (Go.bits .or .u64 (Go.bits .andNot .u64 (Go.bits .or .u64 (IntKind.u64.wrap ((IntKind.u64.wrap (a0)) * 4294967296)) (IntKind.u64.wrap (a1))) (shl .u64 4294967295 (IntKind.u64.wrap (32 - (IntKind.u64.wrap (8 * (IntKind.u64.wrap ((wrap64 (Int.tmod a3 4)))))))))) (shl .u64 (IntKind.u64.wrap (a2)) (IntKind.u64.wrap (32 - (IntKind.u64.wrap (8 * (IntKind.u64.wrap ((wrap64 (Int.tmod a3 4)))))))))) then ((ferrylaw10_awake.f).bind fun t173 => (some t173)) else (some false)) else (none))))) else (some false)) = some r := H
        have A11 := Aside0.mk A110
        clear A110
        by_cases c12 : t168 = (((ji7) / 4294967296) % 4294967296)
        · rw [if_pos c12] at H
          have c12b0 : (t168 == (((ji7) / 4294967296) % 4294967296)) = true := beq_iff_eq.mpr c12
          (try (have c12bs0 := c12b0; simp only [Int.add_emod_emod, Int.emod_add_emod, Int.sub_emod_emod, Int.emod_sub_emod] at c12bs0))
          have c12b1 : (t168 != (((ji7) / 4294967296) % 4294967296)) = false := bne_eq_false_iff_eq.mpr c12
          (try (have c12bs1 := c12b1; simp only [Int.add_emod_emod, Int.emod_add_emod, Int.sub_emod_emod, Int.emod_sub_emod] at c12bs1))
          clear c12
          replace H := Option.bind_eq_some_iff.mp H
          obtain ⟨t169, A130, H⟩ := H
          replace H : (if (wrap64 (Int.tmod a3 4)) = 0 then (if t169 = a2 then ((wide_StoreRight.f t169 a2 3).bind fun t170 => (if t170 = a2 then ((ferrylaw10_awake.f).bind fun t171 => (some t171)) else (some false))) else (some false)) else ((wide_StoreRight.f a1 a2 (wrap64 ((wrap64 (Int.tmod a3 4)) + 3))).bind fun t172 => (if 0 ≤ (IntKind.u64.wrap (32 - (IntKind.u64.wrap (8 * (IntKind.u64.wrap ((wrap64 (Int.tmod a3 4)))))))) then (if (Go.bits .or .u64 (IntKind.u64.wrap ((IntKind.u64.wrap (t169)) * 4294967296)) (IntKind.u64.wrap (t172))) = (Go.bits .or .u64 (Go.bits .andNot .u64 (Go.bits .or .u64 (IntKind.u64.wrap ((IntKind.u64.wrap (a0)) * 4294967296)) (IntKind.u64.wrap (a1))) (shl .u64 4294967295 (IntKind.u64.wrap (32 - (IntKind.u64.wrap (8 * (IntKind.u64.wrap ((wrap64 (Int.tmod a3 4)))))))))) (shl .u64 (IntKind.u64.wrap (a2)) (IntKind.u64.wrap (32 - (IntKind.u64.wrap (8 * (IntKind.u64.wrap ((wrap64 (Int.tmod a3 4)))))))))) then ((ferrylaw10_awake.f).bind fun t173 => (some t173)) else (some false)) else (none)))) = some r := H
          have A13 := Aside0.mk A130
          clear A130
          by_cases c14 : (wrap64 (Int.tmod a3 4)) = 0
          · rw [if_pos c14] at H
            have c14b0 : ((wrap64 (Int.tmod a3 4)) == 0) = true := beq_iff_eq.mpr c14
            have c14b1 : ((wrap64 (Int.tmod a3 4)) != 0) = false := bne_eq_false_iff_eq.mpr c14
            clear c14
            by_cases c15 : t169 = a2
            · rw [if_pos c15] at H
              have c15b0 : (t169 == a2) = true := beq_iff_eq.mpr c15
              have c15b1 : (t169 != a2) = false := bne_eq_false_iff_eq.mpr c15
              clear c15
              replace H := Option.bind_eq_some_iff.mp H
              obtain ⟨t170, A160, H⟩ := H
              replace H : (if t170 = a2 then ((ferrylaw10_awake.f).bind fun t171 => (some t171)) else (some false)) = some r := H
              have A16 := Aside0.mk A160
              clear A160
              by_cases c17 : t170 = a2
              · rw [if_pos c17] at H
                have c17b0 : (t170 == a2) = true := beq_iff_eq.mpr c17
                have c17b1 : (t170 != a2) = false := bne_eq_false_iff_eq.mpr c17
                clear c17
                replace H := Option.bind_eq_some_iff.mp H
                obtain ⟨t171, A180, H⟩ := H
                replace H : (some t171) = some r := H
                have A18 := Aside0.mk A180
                clear A180
                obtain rfl := Option.some.inj H
                go_wp2_with (first | ((with_reducible refine gate_callee (f := 16) rfl ?_); refine goesL_ (some 47) rfl rfl Tryd.func16 (by kernel_rfl) rfl #[.int .u32 t167, .int .u32 x13_8, .int .i64 (wrap64 ((wrap64 (Int.tmod a3 4)) + 3))] rfl (by (try simp only [List.map_toArray, List.map_cons, List.map_nil]); first | done | rfl | (simp only [List.length_drop, List.length_take]; rfl)) ?_; (with_reducible refine (wide_LoadRight.calls t167 x13_8 (wrap64 ((wrap64 (Int.tmod a3 4)) + 3)) t168 _ A11.out).mono ?_); rintro e w' ⟨rfl, ⟨nd, rfl⟩⟩; refine ⟨_, rfl, ?_⟩) | ((with_reducible refine gate_callee (f := 18) rfl ?_); refine goesL_ (some 54) rfl rfl Tryd.func18 (by kernel_rfl) rfl #[.int .u32 a0, .int .u32 a2, .int .i64 (wrap64 (Int.tmod a3 4))] rfl (by (try simp only [List.map_toArray, List.map_cons, List.map_nil]); first | done | rfl | (simp only [List.length_drop, List.length_take]; rfl)) ?_; (with_reducible refine (wide_StoreLeft.calls a0 a2 (wrap64 (Int.tmod a3 4)) t169 _ A13.out).mono ?_); rintro e w' ⟨rfl, ⟨nd, rfl⟩⟩; refine ⟨_, rfl, ?_⟩) | (go_at_call 20; (with_reducible refine (wide_StoreRight.calls t169 a2 3 t170 _ A16.out).mono ?_); rintro e w' ⟨rfl, ⟨nd, rfl⟩⟩) | (go_at_call 12; (with_reducible refine (ferrylaw10_awake.calls  t171 _ ?side1 A18.out).mono ?_); (case side1 => first | exact hL | exact Laid.below hL (by repeat (first | (with_reducible first | exact HB.out | apply below_alloc | apply pw_below_drewN | apply below_drew1) | exact HB.out))); rintro e w19 ⟨rfl, hb⟩; have n0_ := Aside0.mk (below_step (by repeat (first | (with_reducible first | exact HB.out | apply below_alloc | apply pw_below_drewN | apply below_drew1) | exact HB.out)) hb); clear HB; have HB := n0_; clear n0_; (try clear hb); (try clear hb2); (try clear hk); (try clear hi)))
                go_ret
                exact ⟨by first | rfl | (simp [errW_none, errW_some] <;> rfl) | (simp only [← hji5, ← hji7]; first | rfl | (simp [errW_none, errW_some] <;> rfl)) | (simp [*, errW_none, errW_some] <;> rfl), by repeat (first | (with_reducible first | exact HB.out | apply below_alloc | apply pw_below_drewN | apply below_drew1) | exact HB.out)⟩
              · rw [if_neg c17] at H
                have c17b0 : (t170 == a2) = false := beq_eq_false_iff_ne.mpr c17
                have c17b1 : (t170 != a2) = true := bne_iff_ne.mpr c17
                obtain rfl := Option.some.inj H
                go_wp2_with (first | ((with_reducible refine gate_callee (f := 16) rfl ?_); refine goesL_ (some 47) rfl rfl Tryd.func16 (by kernel_rfl) rfl #[.int .u32 t167, .int .u32 x13_8, .int .i64 (wrap64 ((wrap64 (Int.tmod a3 4)) + 3))] rfl (by (try simp only [List.map_toArray, List.map_cons, List.map_nil]); first | done | rfl | (simp only [List.length_drop, List.length_take]; rfl)) ?_; (with_reducible refine (wide_LoadRight.calls t167 x13_8 (wrap64 ((wrap64 (Int.tmod a3 4)) + 3)) t168 _ A11.out).mono ?_); rintro e w' ⟨rfl, ⟨nd, rfl⟩⟩; refine ⟨_, rfl, ?_⟩) | ((with_reducible refine gate_callee (f := 18) rfl ?_); refine goesL_ (some 54) rfl rfl Tryd.func18 (by kernel_rfl) rfl #[.int .u32 a0, .int .u32 a2, .int .i64 (wrap64 (Int.tmod a3 4))] rfl (by (try simp only [List.map_toArray, List.map_cons, List.map_nil]); first | done | rfl | (simp only [List.length_drop, List.length_take]; rfl)) ?_; (with_reducible refine (wide_StoreLeft.calls a0 a2 (wrap64 (Int.tmod a3 4)) t169 _ A13.out).mono ?_); rintro e w' ⟨rfl, ⟨nd, rfl⟩⟩; refine ⟨_, rfl, ?_⟩) | (go_at_call 20; (with_reducible refine (wide_StoreRight.calls t169 a2 3 t170 _ A16.out).mono ?_); rintro e w' ⟨rfl, ⟨nd, rfl⟩⟩))
                go_ret
                exact ⟨by first | rfl | (simp [errW_none, errW_some] <;> rfl) | (simp only [← hji5, ← hji7]; first | rfl | (simp [errW_none, errW_some] <;> rfl)) | (simp [*, errW_none, errW_some] <;> rfl), by repeat (first | (with_reducible first | exact HB.out | apply below_alloc | apply pw_below_drewN | apply below_drew1) | exact HB.out)⟩
            · rw [if_neg c15] at H
              have c15b0 : (t169 == a2) = false := beq_eq_false_iff_ne.mpr c15
              have c15b1 : (t169 != a2) = true := bne_iff_ne.mpr c15
              obtain rfl := Option.some.inj H
              go_wp2_with (first | ((with_reducible refine gate_callee (f := 16) rfl ?_); refine goesL_ (some 47) rfl rfl Tryd.func16 (by kernel_rfl) rfl #[.int .u32 t167, .int .u32 x13_8, .int .i64 (wrap64 ((wrap64 (Int.tmod a3 4)) + 3))] rfl (by (try simp only [List.map_toArray, List.map_cons, List.map_nil]); first | done | rfl | (simp only [List.length_drop, List.length_take]; rfl)) ?_; (with_reducible refine (wide_LoadRight.calls t167 x13_8 (wrap64 ((wrap64 (Int.tmod a3 4)) + 3)) t168 _ A11.out).mono ?_); rintro e w' ⟨rfl, ⟨nd, rfl⟩⟩; refine ⟨_, rfl, ?_⟩) | ((with_reducible refine gate_callee (f := 18) rfl ?_); refine goesL_ (some 54) rfl rfl Tryd.func18 (by kernel_rfl) rfl #[.int .u32 a0, .int .u32 a2, .int .i64 (wrap64 (Int.tmod a3 4))] rfl (by (try simp only [List.map_toArray, List.map_cons, List.map_nil]); first | done | rfl | (simp only [List.length_drop, List.length_take]; rfl)) ?_; (with_reducible refine (wide_StoreLeft.calls a0 a2 (wrap64 (Int.tmod a3 4)) t169 _ A13.out).mono ?_); rintro e w' ⟨rfl, ⟨nd, rfl⟩⟩; refine ⟨_, rfl, ?_⟩))
              go_ret
              exact ⟨by first | rfl | (simp [errW_none, errW_some] <;> rfl) | (simp only [← hji5, ← hji7]; first | rfl | (simp [errW_none, errW_some] <;> rfl)) | (simp [*, errW_none, errW_some] <;> rfl), by repeat (first | (with_reducible first | exact HB.out | apply below_alloc | apply pw_below_drewN | apply below_drew1) | exact HB.out)⟩
          · rw [if_neg c14] at H
            have c14b0 : ((wrap64 (Int.tmod a3 4)) == 0) = false := beq_eq_false_iff_ne.mpr c14
            have c14b1 : ((wrap64 (Int.tmod a3 4)) != 0) = true := bne_iff_ne.mpr c14
            replace H := Option.bind_eq_some_iff.mp H
            obtain ⟨t172, A200, H⟩ := H
            replace H : (if 0 ≤ (IntKind.u64.wrap (32 - (IntKind.u64.wrap (8 * (IntKind.u64.wrap ((wrap64 (Int.tmod a3 4)))))))) then (if (Go.bits .or .u64 (IntKind.u64.wrap ((IntKind.u64.wrap (t169)) * 4294967296)) (IntKind.u64.wrap (t172))) = (Go.bits .or .u64 (Go.bits .andNot .u64 (Go.bits .or .u64 (IntKind.u64.wrap ((IntKind.u64.wrap (a0)) * 4294967296)) (IntKind.u64.wrap (a1))) (shl .u64 4294967295 (IntKind.u64.wrap (32 - (IntKind.u64.wrap (8 * (IntKind.u64.wrap ((wrap64 (Int.tmod a3 4)))))))))) (shl .u64 (IntKind.u64.wrap (a2)) (IntKind.u64.wrap (32 - (IntKind.u64.wrap (8 * (IntKind.u64.wrap ((wrap64 (Int.tmod a3 4)))))))))) then ((ferrylaw10_awake.f).bind fun t173 => (some t173)) else (some false)) else (none)) = some r := H
            have A20 := Aside0.mk A200
            clear A200
            obtain ⟨ji21, hji21⟩ : ∃ j_ : Int, (IntKind.u64.wrap (32 - (IntKind.u64.wrap (8 * (IntKind.u64.wrap ((wrap64 (Int.tmod a3 4)))))))) = j_ := ⟨_, rfl⟩
            replace H : (if 0 ≤ (ji21) then (if (Go.bits .or .u64 (IntKind.u64.wrap ((IntKind.u64.wrap (t169)) * 4294967296)) (IntKind.u64.wrap (t172))) = (Go.bits .or .u64 (Go.bits .andNot .u64 (Go.bits .or .u64 (IntKind.u64.wrap ((IntKind.u64.wrap (a0)) * 4294967296)) (IntKind.u64.wrap (a1))) (shl .u64 4294967295 (ji21))) (shl .u64 (IntKind.u64.wrap (a2)) (ji21))) then ((ferrylaw10_awake.f).bind fun t173 => (some t173)) else (some false)) else (none)) = some r := by first | (rw [hji21] at H; exact H) | (simp only [hji21] at H ⊢; exact H)
            (try (have hji21_n12 := hji21; simp only [hji5] at hji21_n12))
            (try rw [hji21] at A11)
            (try rw [hji21] at A13)
            (try rw [hji21] at A20)
            by_cases c22 : 0 ≤ (ji21)
            · rw [if_pos c22] at H
              have c22b0 := eq_true c22
              have c22b1 : decide (0 ≤ (ji21)) = true := decide_eq_true c22
              clear c22
              obtain ⟨ji23, hji23⟩ : ∃ j_ : Int, (shl .u64 4294967295 (ji21)) = j_ := ⟨_, rfl⟩
              replace H : (if (Go.bits .or .u64 (IntKind.u64.wrap ((IntKind.u64.wrap (t169)) * 4294967296)) (IntKind.u64.wrap (t172))) = (Go.bits .or .u64 (Go.bits .andNot .u64 (Go.bits .or .u64 (IntKind.u64.wrap ((IntKind.u64.wrap (a0)) * 4294967296)) (IntKind.u64.wrap (a1))) (ji23)) (shl .u64 (IntKind.u64.wrap (a2)) (ji21))) then ((ferrylaw10_awake.f).bind fun t173 => (some t173)) else (some false)) = some r := by first | (rw [hji23] at H; exact H) | (simp only [hji23] at H ⊢; exact H)
              (try rw [hji23] at A11)
              (try rw [hji23] at A13)
              (try rw [hji23] at A20)
              have hji23_ : (IntKind.u64.wrap (4294967295 * 2 ^ min (ji21).toNat 64)) = ji23 := hji23
              have hji23z : (ji21) ≤ 64 → (IntKind.u64.wrap (4294967295 * 2 ^ (ji21).toNat)) = ji23 := shl_small hji23
              have c24b0 := eq_true (of_decide_eq_true (by first | (with_reducible assumption) | assumption) : 0 ≤ (ji21))
              obtain ⟨ji25, hji25⟩ : ∃ j_ : Int, (shl .u64 (IntKind.u64.wrap (a2)) (ji21)) = j_ := ⟨_, rfl⟩
              replace H : (if (Go.bits .or .u64 (IntKind.u64.wrap ((IntKind.u64.wrap (t169)) * 4294967296)) (IntKind.u64.wrap (t172))) = (Go.bits .or .u64 (Go.bits .andNot .u64 (Go.bits .or .u64 (IntKind.u64.wrap ((IntKind.u64.wrap (a0)) * 4294967296)) (IntKind.u64.wrap (a1))) (ji23)) (ji25)) then ((ferrylaw10_awake.f).bind fun t173 => (some t173)) else (some false)) = some r := by first | (rw [hji25] at H; exact H) | (simp only [hji25] at H ⊢; exact H)
              (try rw [hji25] at A11)
              (try rw [hji25] at A13)
              (try rw [hji25] at A20)
              have hji25_ : (IntKind.u64.wrap ((IntKind.u64.wrap (a2)) * 2 ^ min (ji21).toNat 64)) = ji25 := hji25
              have hji25z : (ji21) ≤ 64 → (IntKind.u64.wrap ((IntKind.u64.wrap (a2)) * 2 ^ (ji21).toNat)) = ji25 := shl_small hji25
              by_cases c26 : (Go.bits .or .u64 (IntKind.u64.wrap ((IntKind.u64.wrap (t169)) * 4294967296)) (IntKind.u64.wrap (t172))) = (Go.bits .or .u64 (Go.bits .andNot .u64 (Go.bits .or .u64 (IntKind.u64.wrap ((IntKind.u64.wrap (a0)) * 4294967296)) (IntKind.u64.wrap (a1))) (ji23)) (ji25))
              · rw [if_pos c26] at H
                have c26b0 : ((Go.bits .or .u64 (IntKind.u64.wrap ((IntKind.u64.wrap (t169)) * 4294967296)) (IntKind.u64.wrap (t172))) == (Go.bits .or .u64 (Go.bits .andNot .u64 (Go.bits .or .u64 (IntKind.u64.wrap ((IntKind.u64.wrap (a0)) * 4294967296)) (IntKind.u64.wrap (a1))) (ji23)) (ji25))) = true := beq_iff_eq.mpr c26
                have c26b1 : ((Go.bits .or .u64 (IntKind.u64.wrap ((IntKind.u64.wrap (t169)) * 4294967296)) (IntKind.u64.wrap (t172))) != (Go.bits .or .u64 (Go.bits .andNot .u64 (Go.bits .or .u64 (IntKind.u64.wrap ((IntKind.u64.wrap (a0)) * 4294967296)) (IntKind.u64.wrap (a1))) (ji23)) (ji25))) = false := bne_eq_false_iff_eq.mpr c26
                clear c26
                replace H := Option.bind_eq_some_iff.mp H
                obtain ⟨t173, A270, H⟩ := H
                replace H : (some t173) = some r := H
                have A27 := Aside0.mk A270
                clear A270
                obtain rfl := Option.some.inj H
                go_wp2_with (first | ((with_reducible refine gate_callee (f := 16) rfl ?_); refine goesL_ (some 47) rfl rfl Tryd.func16 (by kernel_rfl) rfl #[.int .u32 t167, .int .u32 x13_8, .int .i64 (wrap64 ((wrap64 (Int.tmod a3 4)) + 3))] rfl (by (try simp only [List.map_toArray, List.map_cons, List.map_nil]); first | done | rfl | (simp only [List.length_drop, List.length_take]; rfl)) ?_; (with_reducible refine (wide_LoadRight.calls t167 x13_8 (wrap64 ((wrap64 (Int.tmod a3 4)) + 3)) t168 _ A11.out).mono ?_); rintro e w' ⟨rfl, ⟨nd, rfl⟩⟩; refine ⟨_, rfl, ?_⟩) | ((with_reducible refine gate_callee (f := 18) rfl ?_); refine goesL_ (some 54) rfl rfl Tryd.func18 (by kernel_rfl) rfl #[.int .u32 a0, .int .u32 a2, .int .i64 (wrap64 (Int.tmod a3 4))] rfl (by (try simp only [List.map_toArray, List.map_cons, List.map_nil]); first | done | rfl | (simp only [List.length_drop, List.length_take]; rfl)) ?_; (with_reducible refine (wide_StoreLeft.calls a0 a2 (wrap64 (Int.tmod a3 4)) t169 _ A13.out).mono ?_); rintro e w' ⟨rfl, ⟨nd, rfl⟩⟩; refine ⟨_, rfl, ?_⟩) | ((with_reducible refine gate_callee (f := 20) rfl ?_); refine goesL_ (some 73) rfl rfl Tryd.func20 (by kernel_rfl) rfl #[.int .u32 a1, .int .u32 a2, .int .i64 (wrap64 ((wrap64 (Int.tmod a3 4)) + 3))] rfl (by (try simp only [List.map_toArray, List.map_cons, List.map_nil]); first | done | rfl | (simp only [List.length_drop, List.length_take]; rfl)) ?_; (with_reducible refine (wide_StoreRight.calls a1 a2 (wrap64 ((wrap64 (Int.tmod a3 4)) + 3)) t172 _ A20.out).mono ?_); rintro e w' ⟨rfl, ⟨nd, rfl⟩⟩; refine ⟨_, rfl, ?_⟩) | (go_at_call 12; (with_reducible refine (ferrylaw10_awake.calls  t173 _ ?side1 A27.out).mono ?_); (case side1 => first | exact hL | exact Laid.below hL (by repeat (first | (with_reducible first | exact HB.out | apply below_alloc | apply pw_below_drewN | apply below_drew1) | exact HB.out))); rintro e w28 ⟨rfl, hb⟩; have n0_ := Aside0.mk (below_step (by repeat (first | (with_reducible first | exact HB.out | apply below_alloc | apply pw_below_drewN | apply below_drew1) | exact HB.out)) hb); clear HB; have HB := n0_; clear n0_; (try clear hb); (try clear hb2); (try clear hk); (try clear hi)))
                go_ret
                exact ⟨by first | rfl | (simp [errW_none, errW_some] <;> rfl) | (simp only [← hji5, ← hji7, ← hji21, ← hji23, ← hji25]; first | rfl | (simp [errW_none, errW_some] <;> rfl)) | (simp [*, errW_none, errW_some] <;> rfl), by repeat (first | (with_reducible first | exact HB.out | apply below_alloc | apply pw_below_drewN | apply below_drew1) | exact HB.out)⟩
              · rw [if_neg c26] at H
                have c26b0 : ((Go.bits .or .u64 (IntKind.u64.wrap ((IntKind.u64.wrap (t169)) * 4294967296)) (IntKind.u64.wrap (t172))) == (Go.bits .or .u64 (Go.bits .andNot .u64 (Go.bits .or .u64 (IntKind.u64.wrap ((IntKind.u64.wrap (a0)) * 4294967296)) (IntKind.u64.wrap (a1))) (ji23)) (ji25))) = false := beq_eq_false_iff_ne.mpr c26
                have c26b1 : ((Go.bits .or .u64 (IntKind.u64.wrap ((IntKind.u64.wrap (t169)) * 4294967296)) (IntKind.u64.wrap (t172))) != (Go.bits .or .u64 (Go.bits .andNot .u64 (Go.bits .or .u64 (IntKind.u64.wrap ((IntKind.u64.wrap (a0)) * 4294967296)) (IntKind.u64.wrap (a1))) (ji23)) (ji25))) = true := bne_iff_ne.mpr c26
                obtain rfl := Option.some.inj H
                go_wp2_with (first | ((with_reducible refine gate_callee (f := 16) rfl ?_); refine goesL_ (some 47) rfl rfl Tryd.func16 (by kernel_rfl) rfl #[.int .u32 t167, .int .u32 x13_8, .int .i64 (wrap64 ((wrap64 (Int.tmod a3 4)) + 3))] rfl (by (try simp only [List.map_toArray, List.map_cons, List.map_nil]); first | done | rfl | (simp only [List.length_drop, List.length_take]; rfl)) ?_; (with_reducible refine (wide_LoadRight.calls t167 x13_8 (wrap64 ((wrap64 (Int.tmod a3 4)) + 3)) t168 _ A11.out).mono ?_); rintro e w' ⟨rfl, ⟨nd, rfl⟩⟩; refine ⟨_, rfl, ?_⟩) | ((with_reducible refine gate_callee (f := 18) rfl ?_); refine goesL_ (some 54) rfl rfl Tryd.func18 (by kernel_rfl) rfl #[.int .u32 a0, .int .u32 a2, .int .i64 (wrap64 (Int.tmod a3 4))] rfl (by (try simp only [List.map_toArray, List.map_cons, List.map_nil]); first | done | rfl | (simp only [List.length_drop, List.length_take]; rfl)) ?_; (with_reducible refine (wide_StoreLeft.calls a0 a2 (wrap64 (Int.tmod a3 4)) t169 _ A13.out).mono ?_); rintro e w' ⟨rfl, ⟨nd, rfl⟩⟩; refine ⟨_, rfl, ?_⟩) | ((with_reducible refine gate_callee (f := 20) rfl ?_); refine goesL_ (some 73) rfl rfl Tryd.func20 (by kernel_rfl) rfl #[.int .u32 a1, .int .u32 a2, .int .i64 (wrap64 ((wrap64 (Int.tmod a3 4)) + 3))] rfl (by (try simp only [List.map_toArray, List.map_cons, List.map_nil]); first | done | rfl | (simp only [List.length_drop, List.length_take]; rfl)) ?_; (with_reducible refine (wide_StoreRight.calls a1 a2 (wrap64 ((wrap64 (Int.tmod a3 4)) + 3)) t172 _ A20.out).mono ?_); rintro e w' ⟨rfl, ⟨nd, rfl⟩⟩; refine ⟨_, rfl, ?_⟩))
                go_ret
                exact ⟨by first | rfl | (simp [errW_none, errW_some] <;> rfl) | (simp only [← hji5, ← hji7, ← hji21, ← hji23, ← hji25]; first | rfl | (simp [errW_none, errW_some] <;> rfl)) | (simp [*, errW_none, errW_some] <;> rfl), by repeat (first | (with_reducible first | exact HB.out | apply below_alloc | apply pw_below_drewN | apply below_drew1) | exact HB.out)⟩
            · rw [if_neg c22] at H
              exact absurd H (by simp)
        · rw [if_neg c12] at H
          have c12b0 : (t168 == (((ji7) / 4294967296) % 4294967296)) = false := beq_eq_false_iff_ne.mpr c12
          (try (have c12bs0 := c12b0; simp only [Int.add_emod_emod, Int.emod_add_emod, Int.sub_emod_emod, Int.emod_sub_emod] at c12bs0))
          have c12b1 : (t168 != (((ji7) / 4294967296) % 4294967296)) = true := bne_iff_ne.mpr c12
          (try (have c12bs1 := c12b1; simp only [Int.add_emod_emod, Int.emod_add_emod, Int.sub_emod_emod, Int.emod_sub_emod] at c12bs1))
          obtain rfl := Option.some.inj H
          go_wp2_with (first | ((with_reducible refine gate_callee (f := 16) rfl ?_); refine goesL_ (some 47) rfl rfl Tryd.func16 (by kernel_rfl) rfl #[.int .u32 t167, .int .u32 x13_8, .int .i64 (wrap64 ((wrap64 (Int.tmod a3 4)) + 3))] rfl (by (try simp only [List.map_toArray, List.map_cons, List.map_nil]); first | done | rfl | (simp only [List.length_drop, List.length_take]; rfl)) ?_; (with_reducible refine (wide_LoadRight.calls t167 x13_8 (wrap64 ((wrap64 (Int.tmod a3 4)) + 3)) t168 _ A11.out).mono ?_); rintro e w' ⟨rfl, ⟨nd, rfl⟩⟩; refine ⟨_, rfl, ?_⟩))
          go_ret
          exact ⟨by first | rfl | (simp [errW_none, errW_some] <;> rfl) | (simp only [← hji5, ← hji7]; first | rfl | (simp [errW_none, errW_some] <;> rfl)) | (simp [*, errW_none, errW_some] <;> rfl), by repeat (first | (with_reducible first | exact HB.out | apply below_alloc | apply pw_below_drewN | apply below_drew1) | exact HB.out)⟩
  · rw [if_neg c6] at H
    exact absurd H (by simp)

end Go.Proofs.YtommcnppgodhgaaDoor.F
