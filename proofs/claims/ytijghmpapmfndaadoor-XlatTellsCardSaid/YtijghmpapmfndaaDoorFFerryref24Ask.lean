/- Functions of this seat's program, each as a plain Lean function, and what a call of each comes to. No condition. -/
import Derived.Test.YtijghmpapmfndaaDoorF0
namespace Go.Proofs.YtijghmpapmfndaaDoor.F
open Go.RowKit Go.Proofs.YtijghmpapmfndaaDoorW.PrintWords Go.Proofs.YtijghmpapmfndaaDoorW.PrintLast Go.Proofs.YtijghmpapmfndaaDoorW.PrintMore
attribute [local go_sem] max2_int min2_int max_two min_two max_three min_three max_four min_four   -- for this text's walks alone
set_option linter.unusedVariables false
set_option linter.unusedSimpArgs false

/-! ### ferryref24_Ask: function 10 -/
def ferryref24_Ask.f (a0 : Int) : Option (Int × Bool) := if a0 = 4003 then (some (0, true)) else (if a0 = 4004 then (some (1, true)) else (if a0 = 4005 then (some (2, true)) else (if a0 = 4006 then (some (3, true)) else (if a0 = 4010 then (some (87, true)) else (if a0 = 4012 then (some (80, true)) else (if a0 = 4019 then (some (8, true)) else (if a0 = 4020 then (some (39, true)) else (if a0 = 4033 then (some (21, true)) else (if a0 = 4038 then (some (82, true)) else (if a0 = 4039 then (some (83, true)) else (if a0 = 4040 then (some (84, true)) else (if a0 = 4041 then (some (32, true)) else (if a0 = 4042 then (some (22, true)) else (if a0 = 4063 then (some (33, true)) else (if a0 = 4093 then (some (77, true)) else (if a0 = 4122 then (some (63, true)) else (if a0 = 4203 then (some (79, true)) else (if a0 = 4213 then (some (4, true)) else (if a0 = 4214 then (some (4, true)) else (if a0 = 4215 then (some (5, true)) else (if a0 = 4219 then (some (217, true)) else (if a0 = 4263 then (some (228, true)) else (if a0 = 4353 then (some (318, true)) else (some (0, false)))))))))))))))))))))))))
set_option maxHeartbeats 8000000 in
set_option maxRecDepth 100000 in
theorem ferryref24_Ask.calls (a0 : Int) (r1 : Int) (r2 : Bool) (w : World) (h : ferryref24_Ask.f a0 = some (r1, r2)) :
    Calls Tryd.prog 10 #[.int .u32 a0] w fun e w' => e = .returned (.tuple #[.int .i64 r1, .bool r2]) ∧ Drawn0 w w' := by
  have H : (if a0 = 4003 then (some (0, true)) else (if a0 = 4004 then (some (1, true)) else (if a0 = 4005 then (some (2, true)) else (if a0 = 4006 then (some (3, true)) else (if a0 = 4010 then (some (87, true)) else (if a0 = 4012 then (some (80, true)) else (if a0 = 4019 then (some (8, true)) else (if a0 = 4020 then (some (39, true)) else (if a0 = 4033 then (some (21, true)) else (if a0 = 4038 then (some (82, true)) else (if a0 = 4039 then (some (83, true)) else (if a0 = 4040 then (some (84, true)) else (if a0 = 4041 then (some (32, true)) else (if a0 = 4042 then (some (22, true)) else (if a0 = 4063 then (some (33, true)) else (if a0 = 4093 then (some (77, true)) else (if a0 = 4122 then (some (63, true)) else (if a0 = 4203 then (some (79, true)) else (if a0 = 4213 then (some (4, true)) else (if a0 = 4214 then (some (4, true)) else (if a0 = 4215 then (some (5, true)) else (if a0 = 4219 then (some (217, true)) else (if a0 = 4263 then (some (228, true)) else (if a0 = 4353 then (some (318, true)) else (some (0, false)))))))))))))))))))))))))) = some (r1, r2) := h
  clear h
  by_cases c2 : a0 = 4003
  · rw [if_pos c2] at H
    have c2b0 : (a0 == 4003) = true := beq_iff_eq.mpr c2
    have c2b1 : (a0 != 4003) = false := bne_eq_false_iff_eq.mpr c2
    clear c2
    simp only [Option.some.injEq, Prod.mk.injEq] at H
    obtain ⟨rfl, rfl⟩ := H
    go_enter Tryd.func10, Tryd.ntmps10
    go_wp2
    go_ret2
    exact ⟨by first | rfl | (simp; done) | (simp [*]; done), by repeat (first | exact Drawn0.refl _ | apply Drawn0.step)⟩
  · rw [if_neg c2] at H
    have c2b0 : (a0 == 4003) = false := beq_eq_false_iff_ne.mpr c2
    have c2b1 : (a0 != 4003) = true := bne_iff_ne.mpr c2
    by_cases c3 : a0 = 4004
    · rw [if_pos c3] at H
      have c3b0 : (a0 == 4004) = true := beq_iff_eq.mpr c3
      have c3b1 : (a0 != 4004) = false := bne_eq_false_iff_eq.mpr c3
      clear c3
      simp only [Option.some.injEq, Prod.mk.injEq] at H
      obtain ⟨rfl, rfl⟩ := H
      go_enter Tryd.func10, Tryd.ntmps10
      go_wp2
      go_ret2
      exact ⟨by first | rfl | (simp; done) | (simp [*]; done), by repeat (first | exact Drawn0.refl _ | apply Drawn0.step)⟩
    · rw [if_neg c3] at H
      have c3b0 : (a0 == 4004) = false := beq_eq_false_iff_ne.mpr c3
      have c3b1 : (a0 != 4004) = true := bne_iff_ne.mpr c3
      by_cases c4 : a0 = 4005
      · rw [if_pos c4] at H
        have c4b0 : (a0 == 4005) = true := beq_iff_eq.mpr c4
        have c4b1 : (a0 != 4005) = false := bne_eq_false_iff_eq.mpr c4
        clear c4
        simp only [Option.some.injEq, Prod.mk.injEq] at H
        obtain ⟨rfl, rfl⟩ := H
        go_enter Tryd.func10, Tryd.ntmps10
        go_wp2
        go_ret2
        exact ⟨by first | rfl | (simp; done) | (simp [*]; done), by repeat (first | exact Drawn0.refl _ | apply Drawn0.step)⟩
      · rw [if_neg c4] at H
        have c4b0 : (a0 == 4005) = false := beq_eq_false_iff_ne.mpr c4
        have c4b1 : (a0 != 4005) = true := bne_iff_ne.mpr c4
        by_cases c5 : a0 = 4006
        · rw [if_pos c5] at H
          have c5b0 : (a0 == 4006) = true := beq_iff_eq.mpr c5
          have c5b1 : (a0 != 4006) = false := bne_eq_false_iff_eq.mpr c5
          clear c5
          simp only [Option.some.injEq, Prod.mk.injEq] at H
          obtain ⟨rfl, rfl⟩ := H
          go_enter Tryd.func10, Tryd.ntmps10
          go_wp2
          go_ret2
          exact ⟨by first | rfl | (simp; done) | (simp [*]; done), by repeat (first | exact Drawn0.refl _ | apply Drawn0.step)⟩
        · rw [if_neg c5] at H
          have c5b0 : (a0 == 4006) = false := beq_eq_false_iff_ne.mpr c5
          have c5b1 : (a0 != 4006) = true := bne_iff_ne.mpr c5
          by_cases c6 : a0 = 4010
          · rw [if_pos c6] at H
            have c6b0 : (a0 == 4010) = true := beq_iff_eq.mpr c6
            have c6b1 : (a0 != 4010) = false := bne_eq_false_iff_eq.mpr c6
            clear c6
            simp only [Option.some.injEq, Prod.mk.injEq] at H
            obtain ⟨rfl, rfl⟩ := H
            go_enter Tryd.func10, Tryd.ntmps10
            go_wp2
            go_ret2
            exact ⟨by first | rfl | (simp; done) | (simp [*]; done), by repeat (first | exact Drawn0.refl _ | apply Drawn0.step)⟩
          · rw [if_neg c6] at H
            have c6b0 : (a0 == 4010) = false := beq_eq_false_iff_ne.mpr c6
            have c6b1 : (a0 != 4010) = true := bne_iff_ne.mpr c6
            by_cases c7 : a0 = 4012
            · rw [if_pos c7] at H
              have c7b0 : (a0 == 4012) = true := beq_iff_eq.mpr c7
              have c7b1 : (a0 != 4012) = false := bne_eq_false_iff_eq.mpr c7
              clear c7
              simp only [Option.some.injEq, Prod.mk.injEq] at H
              obtain ⟨rfl, rfl⟩ := H
              go_enter Tryd.func10, Tryd.ntmps10
              go_wp2
              go_ret2
              exact ⟨by first | rfl | (simp; done) | (simp [*]; done), by repeat (first | exact Drawn0.refl _ | apply Drawn0.step)⟩
            · rw [if_neg c7] at H
              have c7b0 : (a0 == 4012) = false := beq_eq_false_iff_ne.mpr c7
              have c7b1 : (a0 != 4012) = true := bne_iff_ne.mpr c7
              by_cases c8 : a0 = 4019
              · rw [if_pos c8] at H
                have c8b0 : (a0 == 4019) = true := beq_iff_eq.mpr c8
                have c8b1 : (a0 != 4019) = false := bne_eq_false_iff_eq.mpr c8
                clear c8
                simp only [Option.some.injEq, Prod.mk.injEq] at H
                obtain ⟨rfl, rfl⟩ := H
                go_enter Tryd.func10, Tryd.ntmps10
                go_wp2
                go_ret2
                exact ⟨by first | rfl | (simp; done) | (simp [*]; done), by repeat (first | exact Drawn0.refl _ | apply Drawn0.step)⟩
              · rw [if_neg c8] at H
                have c8b0 : (a0 == 4019) = false := beq_eq_false_iff_ne.mpr c8
                have c8b1 : (a0 != 4019) = true := bne_iff_ne.mpr c8
                by_cases c9 : a0 = 4020
                · rw [if_pos c9] at H
                  have c9b0 : (a0 == 4020) = true := beq_iff_eq.mpr c9
                  have c9b1 : (a0 != 4020) = false := bne_eq_false_iff_eq.mpr c9
                  clear c9
                  simp only [Option.some.injEq, Prod.mk.injEq] at H
                  obtain ⟨rfl, rfl⟩ := H
                  go_enter Tryd.func10, Tryd.ntmps10
                  go_wp2
                  go_ret2
                  exact ⟨by first | rfl | (simp; done) | (simp [*]; done), by repeat (first | exact Drawn0.refl _ | apply Drawn0.step)⟩
                · rw [if_neg c9] at H
                  have c9b0 : (a0 == 4020) = false := beq_eq_false_iff_ne.mpr c9
                  have c9b1 : (a0 != 4020) = true := bne_iff_ne.mpr c9
                  by_cases c10 : a0 = 4033
                  · rw [if_pos c10] at H
                    have c10b0 : (a0 == 4033) = true := beq_iff_eq.mpr c10
                    have c10b1 : (a0 != 4033) = false := bne_eq_false_iff_eq.mpr c10
                    clear c10
                    simp only [Option.some.injEq, Prod.mk.injEq] at H
                    obtain ⟨rfl, rfl⟩ := H
                    go_enter Tryd.func10, Tryd.ntmps10
                    go_wp2
                    go_ret2
                    exact ⟨by first | rfl | (simp; done) | (simp [*]; done), by repeat (first | exact Drawn0.refl _ | apply Drawn0.step)⟩
                  · rw [if_neg c10] at H
                    have c10b0 : (a0 == 4033) = false := beq_eq_false_iff_ne.mpr c10
                    have c10b1 : (a0 != 4033) = true := bne_iff_ne.mpr c10
                    by_cases c11 : a0 = 4038
                    · rw [if_pos c11] at H
                      have c11b0 : (a0 == 4038) = true := beq_iff_eq.mpr c11
                      have c11b1 : (a0 != 4038) = false := bne_eq_false_iff_eq.mpr c11
                      clear c11
                      simp only [Option.some.injEq, Prod.mk.injEq] at H
                      obtain ⟨rfl, rfl⟩ := H
                      go_enter Tryd.func10, Tryd.ntmps10
                      go_wp2
                      go_ret2
                      exact ⟨by first | rfl | (simp; done) | (simp [*]; done), by repeat (first | exact Drawn0.refl _ | apply Drawn0.step)⟩
                    · rw [if_neg c11] at H
                      have c11b0 : (a0 == 4038) = false := beq_eq_false_iff_ne.mpr c11
                      have c11b1 : (a0 != 4038) = true := bne_iff_ne.mpr c11
                      by_cases c12 : a0 = 4039
                      · rw [if_pos c12] at H
                        have c12b0 : (a0 == 4039) = true := beq_iff_eq.mpr c12
                        have c12b1 : (a0 != 4039) = false := bne_eq_false_iff_eq.mpr c12
                        clear c12
                        simp only [Option.some.injEq, Prod.mk.injEq] at H
                        obtain ⟨rfl, rfl⟩ := H
                        go_enter Tryd.func10, Tryd.ntmps10
                        go_wp2
                        go_ret2
                        exact ⟨by first | rfl | (simp; done) | (simp [*]; done), by repeat (first | exact Drawn0.refl _ | apply Drawn0.step)⟩
                      · rw [if_neg c12] at H
                        have c12b0 : (a0 == 4039) = false := beq_eq_false_iff_ne.mpr c12
                        have c12b1 : (a0 != 4039) = true := bne_iff_ne.mpr c12
                        by_cases c13 : a0 = 4040
                        · rw [if_pos c13] at H
                          have c13b0 : (a0 == 4040) = true := beq_iff_eq.mpr c13
                          have c13b1 : (a0 != 4040) = false := bne_eq_false_iff_eq.mpr c13
                          clear c13
                          simp only [Option.some.injEq, Prod.mk.injEq] at H
                          obtain ⟨rfl, rfl⟩ := H
                          go_enter Tryd.func10, Tryd.ntmps10
                          go_wp2
                          go_ret2
                          exact ⟨by first | rfl | (simp; done) | (simp [*]; done), by repeat (first | exact Drawn0.refl _ | apply Drawn0.step)⟩
                        · rw [if_neg c13] at H
                          have c13b0 : (a0 == 4040) = false := beq_eq_false_iff_ne.mpr c13
                          have c13b1 : (a0 != 4040) = true := bne_iff_ne.mpr c13
                          by_cases c14 : a0 = 4041
                          · rw [if_pos c14] at H
                            have c14b0 : (a0 == 4041) = true := beq_iff_eq.mpr c14
                            have c14b1 : (a0 != 4041) = false := bne_eq_false_iff_eq.mpr c14
                            clear c14
                            simp only [Option.some.injEq, Prod.mk.injEq] at H
                            obtain ⟨rfl, rfl⟩ := H
                            go_enter Tryd.func10, Tryd.ntmps10
                            go_wp2
                            go_ret2
                            exact ⟨by first | rfl | (simp; done) | (simp [*]; done), by repeat (first | exact Drawn0.refl _ | apply Drawn0.step)⟩
                          · rw [if_neg c14] at H
                            have c14b0 : (a0 == 4041) = false := beq_eq_false_iff_ne.mpr c14
                            have c14b1 : (a0 != 4041) = true := bne_iff_ne.mpr c14
                            by_cases c15 : a0 = 4042
                            · rw [if_pos c15] at H
                              have c15b0 : (a0 == 4042) = true := beq_iff_eq.mpr c15
                              have c15b1 : (a0 != 4042) = false := bne_eq_false_iff_eq.mpr c15
                              clear c15
                              simp only [Option.some.injEq, Prod.mk.injEq] at H
                              obtain ⟨rfl, rfl⟩ := H
                              go_enter Tryd.func10, Tryd.ntmps10
                              go_wp2
                              go_ret2
                              exact ⟨by first | rfl | (simp; done) | (simp [*]; done), by repeat (first | exact Drawn0.refl _ | apply Drawn0.step)⟩
                            · rw [if_neg c15] at H
                              have c15b0 : (a0 == 4042) = false := beq_eq_false_iff_ne.mpr c15
                              have c15b1 : (a0 != 4042) = true := bne_iff_ne.mpr c15
                              by_cases c16 : a0 = 4063
                              · rw [if_pos c16] at H
                                have c16b0 : (a0 == 4063) = true := beq_iff_eq.mpr c16
                                have c16b1 : (a0 != 4063) = false := bne_eq_false_iff_eq.mpr c16
                                clear c16
                                simp only [Option.some.injEq, Prod.mk.injEq] at H
                                obtain ⟨rfl, rfl⟩ := H
                                go_enter Tryd.func10, Tryd.ntmps10
                                go_wp2
                                go_ret2
                                exact ⟨by first | rfl | (simp; done) | (simp [*]; done), by repeat (first | exact Drawn0.refl _ | apply Drawn0.step)⟩
                              · rw [if_neg c16] at H
                                have c16b0 : (a0 == 4063) = false := beq_eq_false_iff_ne.mpr c16
                                have c16b1 : (a0 != 4063) = true := bne_iff_ne.mpr c16
                                by_cases c17 : a0 = 4093
                                · rw [if_pos c17] at H
                                  have c17b0 : (a0 == 4093) = true := beq_iff_eq.mpr c17
                                  have c17b1 : (a0 != 4093) = false := bne_eq_false_iff_eq.mpr c17
                                  clear c17
                                  simp only [Option.some.injEq, Prod.mk.injEq] at H
                                  obtain ⟨rfl, rfl⟩ := H
                                  go_enter Tryd.func10, Tryd.ntmps10
                                  go_wp2
                                  go_ret2
                                  exact ⟨by first | rfl | (simp; done) | (simp [*]; done), by repeat (first | exact Drawn0.refl _ | apply Drawn0.step)⟩
                                · rw [if_neg c17] at H
                                  have c17b0 : (a0 == 4093) = false := beq_eq_false_iff_ne.mpr c17
                                  have c17b1 : (a0 != 4093) = true := bne_iff_ne.mpr c17
                                  by_cases c18 : a0 = 4122
                                  · rw [if_pos c18] at H
                                    have c18b0 : (a0 == 4122) = true := beq_iff_eq.mpr c18
                                    have c18b1 : (a0 != 4122) = false := bne_eq_false_iff_eq.mpr c18
                                    clear c18
                                    simp only [Option.some.injEq, Prod.mk.injEq] at H
                                    obtain ⟨rfl, rfl⟩ := H
                                    go_enter Tryd.func10, Tryd.ntmps10
                                    go_wp2
                                    go_ret2
                                    exact ⟨by first | rfl | (simp; done) | (simp [*]; done), by repeat (first | exact Drawn0.refl _ | apply Drawn0.step)⟩
                                  · rw [if_neg c18] at H
                                    have c18b0 : (a0 == 4122) = false := beq_eq_false_iff_ne.mpr c18
                                    have c18b1 : (a0 != 4122) = true := bne_iff_ne.mpr c18
                                    by_cases c19 : a0 = 4203
                                    · rw [if_pos c19] at H
                                      have c19b0 : (a0 == 4203) = true := beq_iff_eq.mpr c19
                                      have c19b1 : (a0 != 4203) = false := bne_eq_false_iff_eq.mpr c19
                                      clear c19
                                      simp only [Option.some.injEq, Prod.mk.injEq] at H
                                      obtain ⟨rfl, rfl⟩ := H
                                      go_enter Tryd.func10, Tryd.ntmps10
                                      go_wp2
                                      go_ret2
                                      exact ⟨by first | rfl | (simp; done) | (simp [*]; done), by repeat (first | exact Drawn0.refl _ | apply Drawn0.step)⟩
                                    · rw [if_neg c19] at H
                                      have c19b0 : (a0 == 4203) = false := beq_eq_false_iff_ne.mpr c19
                                      have c19b1 : (a0 != 4203) = true := bne_iff_ne.mpr c19
                                      by_cases c20 : a0 = 4213
                                      · rw [if_pos c20] at H
                                        have c20b0 : (a0 == 4213) = true := beq_iff_eq.mpr c20
                                        have c20b1 : (a0 != 4213) = false := bne_eq_false_iff_eq.mpr c20
                                        clear c20
                                        simp only [Option.some.injEq, Prod.mk.injEq] at H
                                        obtain ⟨rfl, rfl⟩ := H
                                        go_enter Tryd.func10, Tryd.ntmps10
                                        go_wp2
                                        go_ret2
                                        exact ⟨by first | rfl | (simp; done) | (simp [*]; done), by repeat (first | exact Drawn0.refl _ | apply Drawn0.step)⟩
                                      · rw [if_neg c20] at H
                                        have c20b0 : (a0 == 4213) = false := beq_eq_false_iff_ne.mpr c20
                                        have c20b1 : (a0 != 4213) = true := bne_iff_ne.mpr c20
                                        by_cases c21 : a0 = 4214
                                        · rw [if_pos c21] at H
                                          have c21b0 : (a0 == 4214) = true := beq_iff_eq.mpr c21
                                          have c21b1 : (a0 != 4214) = false := bne_eq_false_iff_eq.mpr c21
                                          clear c21
                                          simp only [Option.some.injEq, Prod.mk.injEq] at H
                                          obtain ⟨rfl, rfl⟩ := H
                                          go_enter Tryd.func10, Tryd.ntmps10
                                          go_wp2
                                          go_ret2
                                          exact ⟨by first | rfl | (simp; done) | (simp [*]; done), by repeat (first | exact Drawn0.refl _ | apply Drawn0.step)⟩
                                        · rw [if_neg c21] at H
                                          have c21b0 : (a0 == 4214) = false := beq_eq_false_iff_ne.mpr c21
                                          have c21b1 : (a0 != 4214) = true := bne_iff_ne.mpr c21
                                          by_cases c22 : a0 = 4215
                                          · rw [if_pos c22] at H
                                            have c22b0 : (a0 == 4215) = true := beq_iff_eq.mpr c22
                                            have c22b1 : (a0 != 4215) = false := bne_eq_false_iff_eq.mpr c22
                                            clear c22
                                            simp only [Option.some.injEq, Prod.mk.injEq] at H
                                            obtain ⟨rfl, rfl⟩ := H
                                            go_enter Tryd.func10, Tryd.ntmps10
                                            go_wp2
                                            go_ret2
                                            exact ⟨by first | rfl | (simp; done) | (simp [*]; done), by repeat (first | exact Drawn0.refl _ | apply Drawn0.step)⟩
                                          · rw [if_neg c22] at H
                                            have c22b0 : (a0 == 4215) = false := beq_eq_false_iff_ne.mpr c22
                                            have c22b1 : (a0 != 4215) = true := bne_iff_ne.mpr c22
                                            by_cases c23 : a0 = 4219
                                            · rw [if_pos c23] at H
                                              have c23b0 : (a0 == 4219) = true := beq_iff_eq.mpr c23
                                              have c23b1 : (a0 != 4219) = false := bne_eq_false_iff_eq.mpr c23
                                              clear c23
                                              simp only [Option.some.injEq, Prod.mk.injEq] at H
                                              obtain ⟨rfl, rfl⟩ := H
                                              go_enter Tryd.func10, Tryd.ntmps10
                                              go_wp2
                                              go_ret2
                                              exact ⟨by first | rfl | (simp; done) | (simp [*]; done), by repeat (first | exact Drawn0.refl _ | apply Drawn0.step)⟩
                                            · rw [if_neg c23] at H
                                              have c23b0 : (a0 == 4219) = false := beq_eq_false_iff_ne.mpr c23
                                              have c23b1 : (a0 != 4219) = true := bne_iff_ne.mpr c23
                                              by_cases c24 : a0 = 4263
                                              · rw [if_pos c24] at H
                                                have c24b0 : (a0 == 4263) = true := beq_iff_eq.mpr c24
                                                have c24b1 : (a0 != 4263) = false := bne_eq_false_iff_eq.mpr c24
                                                clear c24
                                                simp only [Option.some.injEq, Prod.mk.injEq] at H
                                                obtain ⟨rfl, rfl⟩ := H
                                                go_enter Tryd.func10, Tryd.ntmps10
                                                go_wp2
                                                go_ret2
                                                exact ⟨by first | rfl | (simp; done) | (simp [*]; done), by repeat (first | exact Drawn0.refl _ | apply Drawn0.step)⟩
                                              · rw [if_neg c24] at H
                                                have c24b0 : (a0 == 4263) = false := beq_eq_false_iff_ne.mpr c24
                                                have c24b1 : (a0 != 4263) = true := bne_iff_ne.mpr c24
                                                by_cases c25 : a0 = 4353
                                                · rw [if_pos c25] at H
                                                  have c25b0 : (a0 == 4353) = true := beq_iff_eq.mpr c25
                                                  have c25b1 : (a0 != 4353) = false := bne_eq_false_iff_eq.mpr c25
                                                  clear c25
                                                  simp only [Option.some.injEq, Prod.mk.injEq] at H
                                                  obtain ⟨rfl, rfl⟩ := H
                                                  go_enter Tryd.func10, Tryd.ntmps10
                                                  go_wp2
                                                  go_ret2
                                                  exact ⟨by first | rfl | (simp; done) | (simp [*]; done), by repeat (first | exact Drawn0.refl _ | apply Drawn0.step)⟩
                                                · rw [if_neg c25] at H
                                                  have c25b0 : (a0 == 4353) = false := beq_eq_false_iff_ne.mpr c25
                                                  have c25b1 : (a0 != 4353) = true := bne_iff_ne.mpr c25
                                                  simp only [Option.some.injEq, Prod.mk.injEq] at H
                                                  obtain ⟨rfl, rfl⟩ := H
                                                  go_enter Tryd.func10, Tryd.ntmps10
                                                  go_wp2
                                                  go_ret2
                                                  exact ⟨by first | rfl | (simp; done) | (simp [*]; done), by repeat (first | exact Drawn0.refl _ | apply Drawn0.step)⟩

end Go.Proofs.YtijghmpapmfndaaDoor.F
