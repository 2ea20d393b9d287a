/- Functions of this seat's program, each as a plain Lean function, and what a call of each comes to. No condition. -/
import Derived.Test.YtijghmpapmfndaaDoorF0
import Derived.Test.YtijghmpapmfndaaDoorFFerryref24More
namespace Go.Proofs.YtijghmpapmfndaaDoor.F
open Go.RowKit Go.Proofs.YtijghmpapmfndaaDoorW.PrintWords Go.Proofs.YtijghmpapmfndaaDoorW.PrintLast Go.Proofs.YtijghmpapmfndaaDoorW.PrintMore
attribute [local go_sem] max2_int min2_int max_two min_two max_three min_three max_four min_four   -- for this text's walks alone
set_option linter.unusedVariables false
set_option linter.unusedSimpArgs false

/-! ### ferryref24_Name: function 14 -/
def ferryref24_Name.f (a0 : Int) : Option (ByteArray) := if a0 = 4001 then (some (⟨#[101, 120, 105, 116]⟩ : ByteArray)) else (if a0 = 4003 then (some (⟨#[114, 101, 97, 100]⟩ : ByteArray)) else (if a0 = 4004 then (some (⟨#[119, 114, 105, 116, 101]⟩ : ByteArray)) else (if a0 = 4005 then (some (⟨#[111, 112, 101, 110]⟩ : ByteArray)) else (if a0 = 4006 then (some (⟨#[99, 108, 111, 115, 101]⟩ : ByteArray)) else (if a0 = 4010 then (some (⟨#[117, 110, 108, 105, 110, 107]⟩ : ByteArray)) else (if a0 = 4012 then (some (⟨#[99, 104, 100, 105, 114]⟩ : ByteArray)) else (if a0 = 4013 then (some (⟨#[116, 105, 109, 101]⟩ : ByteArray)) else (if a0 = 4019 then (some (⟨#[108, 115, 101, 101, 107]⟩ : ByteArray)) else (if a0 = 4020 then (some (⟨#[103, 101, 116, 112, 105, 100]⟩ : ByteArray)) else (if a0 = 4024 then (some (⟨#[103, 101, 116, 117, 105, 100]⟩ : ByteArray)) else (if a0 = 4033 then (some (⟨#[97, 99, 99, 101, 115, 115]⟩ : ByteArray)) else (if a0 = 4037 then (some (⟨#[107, 105, 108, 108]⟩ : ByteArray)) else (if a0 = 4038 then (some (⟨#[114, 101, 110, 97, 109, 101]⟩ : ByteArray)) else (if a0 = 4039 then (some (⟨#[109, 107, 100, 105, 114]⟩ : ByteArray)) else (if a0 = 4040 then (some (⟨#[114, 109, 100, 105, 114]⟩ : ByteArray)) else (if a0 = 4041 then (some (⟨#[100, 117, 112]⟩ : ByteArray)) else (if a0 = 4042 then (some (⟨#[112, 105, 112, 101]⟩ : ByteArray)) else (if a0 = 4045 then (some (⟨#[98, 114, 107]⟩ : ByteArray)) else (if a0 = 4049 then (some (⟨#[103, 101, 116, 101, 117, 105, 100]⟩ : ByteArray)) else (if a0 = 4063 then (some (⟨#[100, 117, 112, 50]⟩ : ByteArray)) else (if a0 = 4090 then (some (⟨#[109, 109, 97, 112]⟩ : ByteArray)) else (if a0 = 4091 then (some (⟨#[109, 117, 110, 109, 97, 112]⟩ : ByteArray)) else (if a0 = 4093 then (some (⟨#[102, 116, 114, 117, 110, 99, 97, 116, 101]⟩ : ByteArray)) else ((ferryref24_more.f a0).bind fun t148 => (some t148)))))))))))))))))))))))))
set_option maxHeartbeats 8000000 in
set_option maxRecDepth 100000 in
theorem ferryref24_Name.calls (a0 : Int) (r : ByteArray) (w : World) (h : ferryref24_Name.f a0 = some r) :
    Calls Tryd.prog 14 #[.int .u32 a0] w fun e w' => e = .returned (.string r) ∧ Drawn0 w w' := by
  have H : (if a0 = 4001 then (some (⟨#[101, 120, 105, 116]⟩ : ByteArray)) else (if a0 = 4003 then (some (⟨#[114, 101, 97, 100]⟩ : ByteArray)) else (if a0 = 4004 then (some (⟨#[119, 114, 105, 116, 101]⟩ : ByteArray)) else (if a0 = 4005 then (some (⟨#[111, 112, 101, 110]⟩ : ByteArray)) else (if a0 = 4006 then (some (⟨#[99, 108, 111, 115, 101]⟩ : ByteArray)) else (if a0 = 4010 then (some (⟨#[117, 110, 108, 105, 110, 107]⟩ : ByteArray)) else (if a0 = 4012 then (some (⟨#[99, 104, 100, 105, 114]⟩ : ByteArray)) else (if a0 = 4013 then (some (⟨#[116, 105, 109, 101]⟩ : ByteArray)) else (if a0 = 4019 then (some (⟨#[108, 115, 101, 101, 107]⟩ : ByteArray)) else (if a0 = 4020 then (some (⟨#[103, 101, 116, 112, 105, 100]⟩ : ByteArray)) else (if a0 = 4024 then (some (⟨#[103, 101, 116, 117, 105, 100]⟩ : ByteArray)) else (if a0 = 4033 then (some (⟨#[97, 99, 99, 101, 115, 115]⟩ : ByteArray)) else (if a0 = 4037 then (some (⟨#[107, 105, 108, 108]⟩ : ByteArray)) else (if a0 = 4038 then (some (⟨#[114, 101, 110, 97, 109, 101]⟩ : ByteArray)) else (if a0 = 4039 then (some (⟨#[109, 107, 100, 105, 114]⟩ : ByteArray)) else (if a0 = 4040 then (some (⟨#[114, 109, 100, 105, 114]⟩ : ByteArray)) else (if a0 = 4041 then (some (⟨#[100, 117, 112]⟩ : ByteArray)) else (if a0 = 4042 then (some (⟨#[112, 105, 112, 101]⟩ : ByteArray)) else (if a0 = 4045 then (some (⟨#[98, 114, 107]⟩ : ByteArray)) else (if a0 = 4049 then (some (⟨#[103, 101, 116, 101, 117, 105, 100]⟩ : ByteArray)) else (if a0 = 4063 then (some (⟨#[100, 117, 112, 50]⟩ : ByteArray)) else (if a0 = 4090 then (some (⟨#[109, 109, 97, 112]⟩ : ByteArray)) else (if a0 = 4091 then (some (⟨#[109, 117, 110, 109, 97, 112]⟩ : ByteArray)) else (if a0 = 4093 then (some (⟨#[102, 116, 114, 117, 110, 99, 97, 116, 101]⟩ : ByteArray)) else ((ferryref24_more.f a0).bind fun t148 => (some t148)))))))))))))))))))))))))) = some r := h
  clear h
  by_cases c2 : a0 = 4001
  · rw [if_pos c2] at H
    have c2b0 : (a0 == 4001) = true := beq_iff_eq.mpr c2
    have c2b1 : (a0 != 4001) = false := bne_eq_false_iff_eq.mpr c2
    clear c2
    obtain rfl := Option.some.inj H
    go_enter Tryd.func14, Tryd.ntmps14
    go_wp2
    go_ret
    exact ⟨by first | rfl | (simp; done) | (simp [*]; done), by repeat (first | exact Drawn0.refl _ | apply Drawn0.step)⟩
  · rw [if_neg c2] at H
    have c2b0 : (a0 == 4001) = false := beq_eq_false_iff_ne.mpr c2
    have c2b1 : (a0 != 4001) = true := bne_iff_ne.mpr c2
    by_cases c3 : a0 = 4003
    · rw [if_pos c3] at H
      have c3b0 : (a0 == 4003) = true := beq_iff_eq.mpr c3
      have c3b1 : (a0 != 4003) = false := bne_eq_false_iff_eq.mpr c3
      clear c3
      obtain rfl := Option.some.inj H
      go_enter Tryd.func14, Tryd.ntmps14
      go_wp2
      go_ret
      exact ⟨by first | rfl | (simp; done) | (simp [*]; done), by repeat (first | exact Drawn0.refl _ | apply Drawn0.step)⟩
    · rw [if_neg c3] at H
      have c3b0 : (a0 == 4003) = false := beq_eq_false_iff_ne.mpr c3
      have c3b1 : (a0 != 4003) = true := bne_iff_ne.mpr c3
      by_cases c4 : a0 = 4004
      · rw [if_pos c4] at H
        have c4b0 : (a0 == 4004) = true := beq_iff_eq.mpr c4
        have c4b1 : (a0 != 4004) = false := bne_eq_false_iff_eq.mpr c4
        clear c4
        obtain rfl := Option.some.inj H
        go_enter Tryd.func14, Tryd.ntmps14
        go_wp2
        go_ret
        exact ⟨by first | rfl | (simp; done) | (simp [*]; done), by repeat (first | exact Drawn0.refl _ | apply Drawn0.step)⟩
      · rw [if_neg c4] at H
        have c4b0 : (a0 == 4004) = false := beq_eq_false_iff_ne.mpr c4
        have c4b1 : (a0 != 4004) = true := bne_iff_ne.mpr c4
        by_cases c5 : a0 = 4005
        · rw [if_pos c5] at H
          have c5b0 : (a0 == 4005) = true := beq_iff_eq.mpr c5
          have c5b1 : (a0 != 4005) = false := bne_eq_false_iff_eq.mpr c5
          clear c5
          obtain rfl := Option.some.inj H
          go_enter Tryd.func14, Tryd.ntmps14
          go_wp2
          go_ret
          exact ⟨by first | rfl | (simp; done) | (simp [*]; done), by repeat (first | exact Drawn0.refl _ | apply Drawn0.step)⟩
        · rw [if_neg c5] at H
          have c5b0 : (a0 == 4005) = false := beq_eq_false_iff_ne.mpr c5
          have c5b1 : (a0 != 4005) = true := bne_iff_ne.mpr c5
          by_cases c6 : a0 = 4006
          · rw [if_pos c6] at H
            have c6b0 : (a0 == 4006) = true := beq_iff_eq.mpr c6
            have c6b1 : (a0 != 4006) = false := bne_eq_false_iff_eq.mpr c6
            clear c6
            obtain rfl := Option.some.inj H
            go_enter Tryd.func14, Tryd.ntmps14
            go_wp2
            go_ret
            exact ⟨by first | rfl | (simp; done) | (simp [*]; done), by repeat (first | exact Drawn0.refl _ | apply Drawn0.step)⟩
          · rw [if_neg c6] at H
            have c6b0 : (a0 == 4006) = false := beq_eq_false_iff_ne.mpr c6
            have c6b1 : (a0 != 4006) = true := bne_iff_ne.mpr c6
            by_cases c7 : a0 = 4010
            · rw [if_pos c7] at H
              have c7b0 : (a0 == 4010) = true := beq_iff_eq.mpr c7
              have c7b1 : (a0 != 4010) = false := bne_eq_false_iff_eq.mpr c7
              clear c7
              obtain rfl := Option.some.inj H
              go_enter Tryd.func14, Tryd.ntmps14
              go_wp2
              go_ret
              exact ⟨by first | rfl | (simp; done) | (simp [*]; done), by repeat (first | exact Drawn0.refl _ | apply Drawn0.step)⟩
            · rw [if_neg c7] at H
              have c7b0 : (a0 == 4010) = false := beq_eq_false_iff_ne.mpr c7
              have c7b1 : (a0 != 4010) = true := bne_iff_ne.mpr c7
              by_cases c8 : a0 = 4012
              · rw [if_pos c8] at H
                have c8b0 : (a0 == 4012) = true := beq_iff_eq.mpr c8
                have c8b1 : (a0 != 4012) = false := bne_eq_false_iff_eq.mpr c8
                clear c8
                obtain rfl := Option.some.inj H
                go_enter Tryd.func14, Tryd.ntmps14
                go_wp2
                go_ret
                exact ⟨by first | rfl | (simp; done) | (simp [*]; done), by repeat (first | exact Drawn0.refl _ | apply Drawn0.step)⟩
              · rw [if_neg c8] at H
                have c8b0 : (a0 == 4012) = false := beq_eq_false_iff_ne.mpr c8
                have c8b1 : (a0 != 4012) = true := bne_iff_ne.mpr c8
                by_cases c9 : a0 = 4013
                · rw [if_pos c9] at H
                  have c9b0 : (a0 == 4013) = true := beq_iff_eq.mpr c9
                  have c9b1 : (a0 != 4013) = false := bne_eq_false_iff_eq.mpr c9
                  clear c9
                  obtain rfl := Option.some.inj H
                  go_enter Tryd.func14, Tryd.ntmps14
                  go_wp2
                  go_ret
                  exact ⟨by first | rfl | (simp; done) | (simp [*]; done), by repeat (first | exact Drawn0.refl _ | apply Drawn0.step)⟩
                · rw [if_neg c9] at H
                  have c9b0 : (a0 == 4013) = false := beq_eq_false_iff_ne.mpr c9
                  have c9b1 : (a0 != 4013) = true := bne_iff_ne.mpr c9
                  by_cases c10 : a0 = 4019
                  · rw [if_pos c10] at H
                    have c10b0 : (a0 == 4019) = true := beq_iff_eq.mpr c10
                    have c10b1 : (a0 != 4019) = false := bne_eq_false_iff_eq.mpr c10
                    clear c10
                    obtain rfl := Option.some.inj H
                    go_enter Tryd.func14, Tryd.ntmps14
                    go_wp2
                    go_ret
                    exact ⟨by first | rfl | (simp; done) | (simp [*]; done), by repeat (first | exact Drawn0.refl _ | apply Drawn0.step)⟩
                  · rw [if_neg c10] at H
                    have c10b0 : (a0 == 4019) = false := beq_eq_false_iff_ne.mpr c10
                    have c10b1 : (a0 != 4019) = true := bne_iff_ne.mpr c10
                    by_cases c11 : a0 = 4020
                    · rw [if_pos c11] at H
                      have c11b0 : (a0 == 4020) = true := beq_iff_eq.mpr c11
                      have c11b1 : (a0 != 4020) = false := bne_eq_false_iff_eq.mpr c11
                      clear c11
                      obtain rfl := Option.some.inj H
                      go_enter Tryd.func14, Tryd.ntmps14
                      go_wp2
                      go_ret
                      exact ⟨by first | rfl | (simp; done) | (simp [*]; done), by repeat (first | exact Drawn0.refl _ | apply Drawn0.step)⟩
                    · rw [if_neg c11] at H
                      have c11b0 : (a0 == 4020) = false := beq_eq_false_iff_ne.mpr c11
                      have c11b1 : (a0 != 4020) = true := bne_iff_ne.mpr c11
                      by_cases c12 : a0 = 4024
                      · rw [if_pos c12] at H
                        have c12b0 : (a0 == 4024) = true := beq_iff_eq.mpr c12
                        have c12b1 : (a0 != 4024) = false := bne_eq_false_iff_eq.mpr c12
                        clear c12
                        obtain rfl := Option.some.inj H
                        go_enter Tryd.func14, Tryd.ntmps14
                        go_wp2
                        go_ret
                        exact ⟨by first | rfl | (simp; done) | (simp [*]; done), by repeat (first | exact Drawn0.refl _ | apply Drawn0.step)⟩
                      · rw [if_neg c12] at H
                        have c12b0 : (a0 == 4024) = false := beq_eq_false_iff_ne.mpr c12
                        have c12b1 : (a0 != 4024) = true := bne_iff_ne.mpr c12
                        by_cases c13 : a0 = 4033
                        · rw [if_pos c13] at H
                          have c13b0 : (a0 == 4033) = true := beq_iff_eq.mpr c13
                          have c13b1 : (a0 != 4033) = false := bne_eq_false_iff_eq.mpr c13
                          clear c13
                          obtain rfl := Option.some.inj H
                          go_enter Tryd.func14, Tryd.ntmps14
                          go_wp2
                          go_ret
                          exact ⟨by first | rfl | (simp; done) | (simp [*]; done), by repeat (first | exact Drawn0.refl _ | apply Drawn0.step)⟩
                        · rw [if_neg c13] at H
                          have c13b0 : (a0 == 4033) = false := beq_eq_false_iff_ne.mpr c13
                          have c13b1 : (a0 != 4033) = true := bne_iff_ne.mpr c13
                          by_cases c14 : a0 = 4037
                          · rw [if_pos c14] at H
                            have c14b0 : (a0 == 4037) = true := beq_iff_eq.mpr c14
                            have c14b1 : (a0 != 4037) = false := bne_eq_false_iff_eq.mpr c14
                            clear c14
                            obtain rfl := Option.some.inj H
                            go_enter Tryd.func14, Tryd.ntmps14
                            go_wp2
                            go_ret
                            exact ⟨by first | rfl | (simp; done) | (simp [*]; done), by repeat (first | exact Drawn0.refl _ | apply Drawn0.step)⟩
                          · rw [if_neg c14] at H
                            have c14b0 : (a0 == 4037) = false := beq_eq_false_iff_ne.mpr c14
                            have c14b1 : (a0 != 4037) = true := bne_iff_ne.mpr c14
                            by_cases c15 : a0 = 4038
                            · rw [if_pos c15] at H
                              have c15b0 : (a0 == 4038) = true := beq_iff_eq.mpr c15
                              have c15b1 : (a0 != 4038) = false := bne_eq_false_iff_eq.mpr c15
                              clear c15
                              obtain rfl := Option.some.inj H
                              go_enter Tryd.func14, Tryd.ntmps14
                              go_wp2
                              go_ret
                              exact ⟨by first | rfl | (simp; done) | (simp [*]; done), by repeat (first | exact Drawn0.refl _ | apply Drawn0.step)⟩
                            · rw [if_neg c15] at H
                              have c15b0 : (a0 == 4038) = false := beq_eq_false_iff_ne.mpr c15
                              have c15b1 : (a0 != 4038) = true := bne_iff_ne.mpr c15
                              by_cases c16 : a0 = 4039
                              · rw [if_pos c16] at H
                                have c16b0 : (a0 == 4039) = true := beq_iff_eq.mpr c16
                                have c16b1 : (a0 != 4039) = false := bne_eq_false_iff_eq.mpr c16
                                clear c16
                                obtain rfl := Option.some.inj H
                                go_enter Tryd.func14, Tryd.ntmps14
                                go_wp2
                                go_ret
                                exact ⟨by first | rfl | (simp; done) | (simp [*]; done), by repeat (first | exact Drawn0.refl _ | apply Drawn0.step)⟩
                              · rw [if_neg c16] at H
                                have c16b0 : (a0 == 4039) = false := beq_eq_false_iff_ne.mpr c16
                                have c16b1 : (a0 != 4039) = true := bne_iff_ne.mpr c16
                                by_cases c17 : a0 = 4040
                                · rw [if_pos c17] at H
                                  have c17b0 : (a0 == 4040) = true := beq_iff_eq.mpr c17
                                  have c17b1 : (a0 != 4040) = false := bne_eq_false_iff_eq.mpr c17
                                  clear c17
                                  obtain rfl := Option.some.inj H
                                  go_enter Tryd.func14, Tryd.ntmps14
                                  go_wp2
                                  go_ret
                                  exact ⟨by first | rfl | (simp; done) | (simp [*]; done), by repeat (first | exact Drawn0.refl _ | apply Drawn0.step)⟩
                                · rw [if_neg c17] at H
                                  have c17b0 : (a0 == 4040) = false := beq_eq_false_iff_ne.mpr c17
                                  have c17b1 : (a0 != 4040) = true := bne_iff_ne.mpr c17
                                  by_cases c18 : a0 = 4041
                                  · rw [if_pos c18] at H
                                    have c18b0 : (a0 == 4041) = true := beq_iff_eq.mpr c18
                                    have c18b1 : (a0 != 4041) = false := bne_eq_false_iff_eq.mpr c18
                                    clear c18
                                    obtain rfl := Option.some.inj H
                                    go_enter Tryd.func14, Tryd.ntmps14
                                    go_wp2
                                    go_ret
                                    exact ⟨by first | rfl | (simp; done) | (simp [*]; done), by repeat (first | exact Drawn0.refl _ | apply Drawn0.step)⟩
                                  · rw [if_neg c18] at H
                                    have c18b0 : (a0 == 4041) = false := beq_eq_false_iff_ne.mpr c18
                                    have c18b1 : (a0 != 4041) = true := bne_iff_ne.mpr c18
                                    by_cases c19 : a0 = 4042
                                    · rw [if_pos c19] at H
                                      have c19b0 : (a0 == 4042) = true := beq_iff_eq.mpr c19
                                      have c19b1 : (a0 != 4042) = false := bne_eq_false_iff_eq.mpr c19
                                      clear c19
                                      obtain rfl := Option.some.inj H
                                      go_enter Tryd.func14, Tryd.ntmps14
                                      go_wp2
                                      go_ret
                                      exact ⟨by first | rfl | (simp; done) | (simp [*]; done), by repeat (first | exact Drawn0.refl _ | apply Drawn0.step)⟩
                                    · rw [if_neg c19] at H
                                      have c19b0 : (a0 == 4042) = false := beq_eq_false_iff_ne.mpr c19
                                      have c19b1 : (a0 != 4042) = true := bne_iff_ne.mpr c19
                                      by_cases c20 : a0 = 4045
                                      · rw [if_pos c20] at H
                                        have c20b0 : (a0 == 4045) = true := beq_iff_eq.mpr c20
                                        have c20b1 : (a0 != 4045) = false := bne_eq_false_iff_eq.mpr c20
                                        clear c20
                                        obtain rfl := Option.some.inj H
                                        go_enter Tryd.func14, Tryd.ntmps14
                                        go_wp2
                                        go_ret
                                        exact ⟨by first | rfl | (simp; done) | (simp [*]; done), by repeat (first | exact Drawn0.refl _ | apply Drawn0.step)⟩
                                      · rw [if_neg c20] at H
                                        have c20b0 : (a0 == 4045) = false := beq_eq_false_iff_ne.mpr c20
                                        have c20b1 : (a0 != 4045) = true := bne_iff_ne.mpr c20
                                        by_cases c21 : a0 = 4049
                                        · rw [if_pos c21] at H
                                          have c21b0 : (a0 == 4049) = true := beq_iff_eq.mpr c21
                                          have c21b1 : (a0 != 4049) = false := bne_eq_false_iff_eq.mpr c21
                                          clear c21
                                          obtain rfl := Option.some.inj H
                                          go_enter Tryd.func14, Tryd.ntmps14
                                          go_wp2
                                          go_ret
                                          exact ⟨by first | rfl | (simp; done) | (simp [*]; done), by repeat (first | exact Drawn0.refl _ | apply Drawn0.step)⟩
                                        · rw [if_neg c21] at H
                                          have c21b0 : (a0 == 4049) = false := beq_eq_false_iff_ne.mpr c21
                                          have c21b1 : (a0 != 4049) = true := bne_iff_ne.mpr c21
                                          by_cases c22 : a0 = 4063
                                          · rw [if_pos c22] at H
                                            have c22b0 : (a0 == 4063) = true := beq_iff_eq.mpr c22
                                            have c22b1 : (a0 != 4063) = false := bne_eq_false_iff_eq.mpr c22
                                            clear c22
                                            obtain rfl := Option.some.inj H
                                            go_enter Tryd.func14, Tryd.ntmps14
                                            go_wp2
                                            go_ret
                                            exact ⟨by first | rfl | (simp; done) | (simp [*]; done), by repeat (first | exact Drawn0.refl _ | apply Drawn0.step)⟩
                                          · rw [if_neg c22] at H
                                            have c22b0 : (a0 == 4063) = false := beq_eq_false_iff_ne.mpr c22
                                            have c22b1 : (a0 != 4063) = true := bne_iff_ne.mpr c22
                                            by_cases c23 : a0 = 4090
                                            · rw [if_pos c23] at H
                                              have c23b0 : (a0 == 4090) = true := beq_iff_eq.mpr c23
                                              have c23b1 : (a0 != 4090) = false := bne_eq_false_iff_eq.mpr c23
                                              clear c23
                                              obtain rfl := Option.some.inj H
                                              go_enter Tryd.func14, Tryd.ntmps14
                                              go_wp2
                                              go_ret
                                              exact ⟨by first | rfl | (simp; done) | (simp [*]; done), by repeat (first | exact Drawn0.refl _ | apply Drawn0.step)⟩
                                            · rw [if_neg c23] at H
                                              have c23b0 : (a0 == 4090) = false := beq_eq_false_iff_ne.mpr c23
                                              have c23b1 : (a0 != 4090) = true := bne_iff_ne.mpr c23
                                              by_cases c24 : a0 = 4091
                                              · rw [if_pos c24] at H
                                                have c24b0 : (a0 == 4091) = true := beq_iff_eq.mpr c24
                                                have c24b1 : (a0 != 4091) = false := bne_eq_false_iff_eq.mpr c24
                                                clear c24
                                                obtain rfl := Option.some.inj H
                                                go_enter Tryd.func14, Tryd.ntmps14
                                                go_wp2
                                                go_ret
                                                exact ⟨by first | rfl | (simp; done) | (simp [*]; done), by repeat (first | exact Drawn0.refl _ | apply Drawn0.step)⟩
                                              · rw [if_neg c24] at H
                                                have c24b0 : (a0 == 4091) = false := beq_eq_false_iff_ne.mpr c24
                                                have c24b1 : (a0 != 4091) = true := bne_iff_ne.mpr c24
                                                by_cases c25 : a0 = 4093
                                                · rw [if_pos c25] at H
                                                  have c25b0 : (a0 == 4093) = true := beq_iff_eq.mpr c25
                                                  have c25b1 : (a0 != 4093) = false := bne_eq_false_iff_eq.mpr c25
                                                  clear c25
                                                  obtain rfl := Option.some.inj H
                                                  go_enter Tryd.func14, Tryd.ntmps14
                                                  go_wp2
                                                  go_ret
                                                  exact ⟨by first | rfl | (simp; done) | (simp [*]; done), by repeat (first | exact Drawn0.refl _ | apply Drawn0.step)⟩
                                                · rw [if_neg c25] at H
                                                  have c25b0 : (a0 == 4093) = false := beq_eq_false_iff_ne.mpr c25
                                                  have c25b1 : (a0 != 4093) = true := bne_iff_ne.mpr c25
                                                  replace H := Option.bind_eq_some_iff.mp H
                                                  obtain ⟨t148, A260, H⟩ := H
                                                  replace H : (some t148) = some r := H
                                                  have A26 := Aside0.mk A260
                                                  clear A260
                                                  obtain rfl := Option.some.inj H
                                                  go_enter Tryd.func14, Tryd.ntmps14
                                                  go_wp2_with (first | ((with_reducible refine gate_callee (f := 24) rfl ?_); refine goesL_ (some 53) rfl rfl Tryd.func24 (by kernel_rfl) rfl #[.int .u32 a0] rfl (by (try simp only [List.map_toArray, List.map_cons, List.map_nil]); first | done | rfl | (simp only [List.length_drop, List.length_take]; rfl)) ?_; (with_reducible refine (ferryref24_more.calls a0 t148 _ A26.out).mono ?_); rintro e w' ⟨rfl, ⟨nd, rfl⟩⟩; refine ⟨_, rfl, ?_⟩))
                                                  go_ret
                                                  exact ⟨by first | rfl | (simp; done) | (simp [*]; done), by repeat (first | exact Drawn0.refl _ | apply Drawn0.step)⟩

end Go.Proofs.YtijghmpapmfndaaDoor.F
