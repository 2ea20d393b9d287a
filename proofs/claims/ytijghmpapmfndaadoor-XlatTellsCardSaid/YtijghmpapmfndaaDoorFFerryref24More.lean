/- Functions of this seat's program, each as a plain Lean function, and what a call of each comes to. No condition. -/
import Derived.Test.YtijghmpapmfndaaDoorF0
namespace Go.Proofs.YtijghmpapmfndaaDoor.F
open Go.RowKit Go.Proofs.YtijghmpapmfndaaDoorW.PrintWords Go.Proofs.YtijghmpapmfndaaDoorW.PrintLast Go.Proofs.YtijghmpapmfndaaDoorW.PrintMore
attribute [local go_sem] max2_int min2_int max_two min_two max_three min_three max_four min_four   -- for this text's walks alone
set_option linter.unusedVariables false
set_option linter.unusedSimpArgs false

/-! ### ferryref24_more: function 24 -/
def ferryref24_more.f (a0 : Int) : Option (ByteArray) := if a0 = 4119 then (some (⟨#[115, 105, 103, 114, 101, 116, 117, 114, 110]⟩ : ByteArray)) else (if a0 = 4122 then (some (⟨#[117, 110, 97, 109, 101]⟩ : ByteArray)) else (if a0 = 4125 then (some (⟨#[109, 112, 114, 111, 116, 101, 99, 116]⟩ : ByteArray)) else (if a0 = 4140 then (some (⟨#[108, 108, 115, 101, 101, 107]⟩ : ByteArray)) else (if a0 = 4145 then (some (⟨#[114, 101, 97, 100, 118]⟩ : ByteArray)) else (if a0 = 4146 then (some (⟨#[119, 114, 105, 116, 101, 118]⟩ : ByteArray)) else (if a0 = 4166 then (some (⟨#[110, 97, 110, 111, 115, 108, 101, 101, 112]⟩ : ByteArray)) else (if a0 = 4193 then (some (⟨#[114, 116, 95, 115, 105, 103, 114, 101, 116, 117, 114, 110]⟩ : ByteArray)) else (if a0 = 4194 then (some (⟨#[114, 116, 95, 115, 105, 103, 97, 99, 116, 105, 111, 110]⟩ : ByteArray)) else (if a0 = 4195 then (some (⟨#[114, 116, 95, 115, 105, 103, 112, 114, 111, 99, 109, 97, 115, 107]⟩ : ByteArray)) else (if a0 = 4196 then (some (⟨#[114, 116, 95, 115, 105, 103, 112, 101, 110, 100, 105, 110, 103]⟩ : ByteArray)) else (if a0 = 4203 then (some (⟨#[103, 101, 116, 99, 119, 100]⟩ : ByteArray)) else (if a0 = 4206 then (some (⟨#[115, 105, 103, 97, 108, 116, 115, 116, 97, 99, 107]⟩ : ByteArray)) else (if a0 = 4210 then (some (⟨#[109, 109, 97, 112, 50]⟩ : ByteArray)) else (if a0 = 4213 then (some (⟨#[115, 116, 97, 116, 54, 52]⟩ : ByteArray)) else (if a0 = 4214 then (some (⟨#[108, 115, 116, 97, 116, 54, 52]⟩ : ByteArray)) else (if a0 = 4215 then (some (⟨#[102, 115, 116, 97, 116, 54, 52]⟩ : ByteArray)) else (if a0 = 4219 then (some (⟨#[103, 101, 116, 100, 101, 110, 116, 115, 54, 52]⟩ : ByteArray)) else (if a0 = 4246 then (some (⟨#[101, 120, 105, 116, 95, 103, 114, 111, 117, 112]⟩ : ByteArray)) else (if a0 = 4263 then (some (⟨#[99, 108, 111, 99, 107, 95, 103, 101, 116, 116, 105, 109, 101]⟩ : ByteArray)) else (if a0 = 4283 then (some (⟨#[115, 101, 116, 95, 116, 104, 114, 101, 97, 100, 95, 97, 114, 101, 97]⟩ : ByteArray)) else (if a0 = 4353 then (some (⟨#[103, 101, 116, 114, 97, 110, 100, 111, 109]⟩ : ByteArray)) else (some (⟨#[]⟩ : ByteArray)))))))))))))))))))))))
set_option maxHeartbeats 8000000 in
set_option maxRecDepth 100000 in
theorem ferryref24_more.calls (a0 : Int) (r : ByteArray) (w : World) (h : ferryref24_more.f a0 = some r) :
    Calls Tryd.prog 24 #[.int .u32 a0] w fun e w' => e = .returned (.string r) ∧ Drawn0 w w' := by
  have H : (if a0 = 4119 then (some (⟨#[115, 105, 103, 114, 101, 116, 117, 114, 110]⟩ : ByteArray)) else (if a0 = 4122 then (some (⟨#[117, 110, 97, 109, 101]⟩ : ByteArray)) else (if a0 = 4125 then (some (⟨#[109, 112, 114, 111, 116, 101, 99, 116]⟩ : ByteArray)) else (if a0 = 4140 then (some (⟨#[108, 108, 115, 101, 101, 107]⟩ : ByteArray)) else (if a0 = 4145 then (some (⟨#[114, 101, 97, 100, 118]⟩ : ByteArray)) else (if a0 = 4146 then (some (⟨#[119, 114, 105, 116, 101, 118]⟩ : ByteArray)) else (if a0 = 4166 then (some (⟨#[110, 97, 110, 111, 115, 108, 101, 101, 112]⟩ : ByteArray)) else (if a0 = 4193 then (some (⟨#[114, 116, 95, 115, 105, 103, 114, 101, 116, 117, 114, 110]⟩ : ByteArray)) else (if a0 = 4194 then (some (⟨#[114, 116, 95, 115, 105, 103, 97, 99, 116, 105, 111, 110]⟩ : ByteArray)) else (if a0 = 4195 then (some (⟨#[114, 116, 95, 115, 105, 103, 112, 114, 111, 99, 109, 97, 115, 107]⟩ : ByteArray)) else (if a0 = 4196 then (some (⟨#[114, 116, 95, 115, 105, 103, 112, 101, 110, 100, 105, 110, 103]⟩ : ByteArray)) else (if a0 = 4203 then (some (⟨#[103, 101, 116, 99, 119, 100]⟩ : ByteArray)) else (if a0 = 4206 then (some (⟨#[115, 105, 103, 97, 108, 116, 115, 116, 97, 99, 107]⟩ : ByteArray)) else (if a0 = 4210 then (some (⟨#[109, 109, 97, 112, 50]⟩ : ByteArray)) else (if a0 = 4213 then (some (⟨#[115, 116, 97, 116, 54, 52]⟩ : ByteArray)) else (if a0 = 4214 then (some (⟨#[108, 115, 116, 97, 116, 54, 52]⟩ : ByteArray)) else (if a0 = 4215 then (some (⟨#[102, 115, 116, 97, 116, 54, 52]⟩ : ByteArray)) else (if a0 = 4219 then (some (⟨#[103, 101, 116, 100, 101, 110, 116, 115, 54, 52]⟩ : ByteArray)) else (if a0 = 4246 then (some (⟨#[101, 120, 105, 116, 95, 103, 114, 111, 117, 112]⟩ : ByteArray)) else (if a0 = 4263 then (some (⟨#[99, 108, 111, 99, 107, 95, 103, 101, 116, 116, 105, 109, 101]⟩ : ByteArray)) else (if a0 = 4283 then (some (⟨#[115, 101, 116, 95, 116, 104, 114, 101, 97, 100, 95, 97, 114, 101, 97]⟩ : ByteArray)) else (if a0 = 4353 then (some (⟨#[103, 101, 116, 114, 97, 110, 100, 111, 109]⟩ : ByteArray)) else (some (⟨#[]⟩ : ByteArray)))))))))))))))))))))))) = some r := h
  clear h
  by_cases c2 : a0 = 4119
  · rw [if_pos c2] at H
    have c2b0 : (a0 == 4119) = true := beq_iff_eq.mpr c2
    have c2b1 : (a0 != 4119) = false := bne_eq_false_iff_eq.mpr c2
    clear c2
    obtain rfl := Option.some.inj H
    go_enter Tryd.func24, Tryd.ntmps24
    go_wp2
    go_ret
    exact ⟨by first | rfl | (simp; done) | (simp [*]; done), by repeat (first | exact Drawn0.refl _ | apply Drawn0.step)⟩
  · rw [if_neg c2] at H
    have c2b0 : (a0 == 4119) = false := beq_eq_false_iff_ne.mpr c2
    have c2b1 : (a0 != 4119) = true := bne_iff_ne.mpr c2
    by_cases c3 : a0 = 4122
    · rw [if_pos c3] at H
      have c3b0 : (a0 == 4122) = true := beq_iff_eq.mpr c3
      have c3b1 : (a0 != 4122) = false := bne_eq_false_iff_eq.mpr c3
      clear c3
      obtain rfl := Option.some.inj H
      go_enter Tryd.func24, Tryd.ntmps24
      go_wp2
      go_ret
      exact ⟨by first | rfl | (simp; done) | (simp [*]; done), by repeat (first | exact Drawn0.refl _ | apply Drawn0.step)⟩
    · rw [if_neg c3] at H
      have c3b0 : (a0 == 4122) = false := beq_eq_false_iff_ne.mpr c3
      have c3b1 : (a0 != 4122) = true := bne_iff_ne.mpr c3
      by_cases c4 : a0 = 4125
      · rw [if_pos c4] at H
        have c4b0 : (a0 == 4125) = true := beq_iff_eq.mpr c4
        have c4b1 : (a0 != 4125) = false := bne_eq_false_iff_eq.mpr c4
        clear c4
        obtain rfl := Option.some.inj H
        go_enter Tryd.func24, Tryd.ntmps24
        go_wp2
        go_ret
        exact ⟨by first | rfl | (simp; done) | (simp [*]; done), by repeat (first | exact Drawn0.refl _ | apply Drawn0.step)⟩
      · rw [if_neg c4] at H
        have c4b0 : (a0 == 4125) = false := beq_eq_false_iff_ne.mpr c4
        have c4b1 : (a0 != 4125) = true := bne_iff_ne.mpr c4
        by_cases c5 : a0 = 4140
        · rw [if_pos c5] at H
          have c5b0 : (a0 == 4140) = true := beq_iff_eq.mpr c5
          have c5b1 : (a0 != 4140) = false := bne_eq_false_iff_eq.mpr c5
          clear c5
          obtain rfl := Option.some.inj H
          go_enter Tryd.func24, Tryd.ntmps24
          go_wp2
          go_ret
          exact ⟨by first | rfl | (simp; done) | (simp [*]; done), by repeat (first | exact Drawn0.refl _ | apply Drawn0.step)⟩
        · rw [if_neg c5] at H
          have c5b0 : (a0 == 4140) = false := beq_eq_false_iff_ne.mpr c5
          have c5b1 : (a0 != 4140) = true := bne_iff_ne.mpr c5
          by_cases c6 : a0 = 4145
          · rw [if_pos c6] at H
            have c6b0 : (a0 == 4145) = true := beq_iff_eq.mpr c6
            have c6b1 : (a0 != 4145) = false := bne_eq_false_iff_eq.mpr c6
            clear c6
            obtain rfl := Option.some.inj H
            go_enter Tryd.func24, Tryd.ntmps24
            go_wp2
            go_ret
            exact ⟨by first | rfl | (simp; done) | (simp [*]; done), by repeat (first | exact Drawn0.refl _ | apply Drawn0.step)⟩
          · rw [if_neg c6] at H
            have c6b0 : (a0 == 4145) = false := beq_eq_false_iff_ne.mpr c6
            have c6b1 : (a0 != 4145) = true := bne_iff_ne.mpr c6
            by_cases c7 : a0 = 4146
            · rw [if_pos c7] at H
              have c7b0 : (a0 == 4146) = true := beq_iff_eq.mpr c7
              have c7b1 : (a0 != 4146) = false := bne_eq_false_iff_eq.mpr c7
              clear c7
              obtain rfl := Option.some.inj H
              go_enter Tryd.func24, Tryd.ntmps24
              go_wp2
              go_ret
              exact ⟨by first | rfl | (simp; done) | (simp [*]; done), by repeat (first | exact Drawn0.refl _ | apply Drawn0.step)⟩
            · rw [if_neg c7] at H
              have c7b0 : (a0 == 4146) = false := beq_eq_false_iff_ne.mpr c7
              have c7b1 : (a0 != 4146) = true := bne_iff_ne.mpr c7
              by_cases c8 : a0 = 4166
              · rw [if_pos c8] at H
                have c8b0 : (a0 == 4166) = true := beq_iff_eq.mpr c8
                have c8b1 : (a0 != 4166) = false := bne_eq_false_iff_eq.mpr c8
                clear c8
                obtain rfl := Option.some.inj H
                go_enter Tryd.func24, Tryd.ntmps24
                go_wp2
                go_ret
                exact ⟨by first | rfl | (simp; done) | (simp [*]; done), by repeat (first | exact Drawn0.refl _ | apply Drawn0.step)⟩
              · rw [if_neg c8] at H
                have c8b0 : (a0 == 4166) = false := beq_eq_false_iff_ne.mpr c8
                have c8b1 : (a0 != 4166) = true := bne_iff_ne.mpr c8
                by_cases c9 : a0 = 4193
                · rw [if_pos c9] at H
                  have c9b0 : (a0 == 4193) = true := beq_iff_eq.mpr c9
                  have c9b1 : (a0 != 4193) = false := bne_eq_false_iff_eq.mpr c9
                  clear c9
                  obtain rfl := Option.some.inj H
                  go_enter Tryd.func24, Tryd.ntmps24
                  go_wp2
                  go_ret
                  exact ⟨by first | rfl | (simp; done) | (simp [*]; done), by repeat (first | exact Drawn0.refl _ | apply Drawn0.step)⟩
                · rw [if_neg c9] at H
                  have c9b0 : (a0 == 4193) = false := beq_eq_false_iff_ne.mpr c9
                  have c9b1 : (a0 != 4193) = true := bne_iff_ne.mpr c9
                  by_cases c10 : a0 = 4194
                  · rw [if_pos c10] at H
                    have c10b0 : (a0 == 4194) = true := beq_iff_eq.mpr c10
                    have c10b1 : (a0 != 4194) = false := bne_eq_false_iff_eq.mpr c10
                    clear c10
                    obtain rfl := Option.some.inj H
                    go_enter Tryd.func24, Tryd.ntmps24
                    go_wp2
                    go_ret
                    exact ⟨by first | rfl | (simp; done) | (simp [*]; done), by repeat (first | exact Drawn0.refl _ | apply Drawn0.step)⟩
                  · rw [if_neg c10] at H
                    have c10b0 : (a0 == 4194) = false := beq_eq_false_iff_ne.mpr c10
                    have c10b1 : (a0 != 4194) = true := bne_iff_ne.mpr c10
                    by_cases c11 : a0 = 4195
                    · rw [if_pos c11] at H
                      have c11b0 : (a0 == 4195) = true := beq_iff_eq.mpr c11
                      have c11b1 : (a0 != 4195) = false := bne_eq_false_iff_eq.mpr c11
                      clear c11
                      obtain rfl := Option.some.inj H
                      go_enter Tryd.func24, Tryd.ntmps24
                      go_wp2
                      go_ret
                      exact ⟨by first | rfl | (simp; done) | (simp [*]; done), by repeat (first | exact Drawn0.refl _ | apply Drawn0.step)⟩
                    · rw [if_neg c11] at H
                      have c11b0 : (a0 == 4195) = false := beq_eq_false_iff_ne.mpr c11
                      have c11b1 : (a0 != 4195) = true := bne_iff_ne.mpr c11
                      by_cases c12 : a0 = 4196
                      · rw [if_pos c12] at H
                        have c12b0 : (a0 == 4196) = true := beq_iff_eq.mpr c12
                        have c12b1 : (a0 != 4196) = false := bne_eq_false_iff_eq.mpr c12
                        clear c12
                        obtain rfl := Option.some.inj H
                        go_enter Tryd.func24, Tryd.ntmps24
                        go_wp2
                        go_ret
                        exact ⟨by first | rfl | (simp; done) | (simp [*]; done), by repeat (first | exact Drawn0.refl _ | apply Drawn0.step)⟩
                      · rw [if_neg c12] at H
                        have c12b0 : (a0 == 4196) = false := beq_eq_false_iff_ne.mpr c12
                        have c12b1 : (a0 != 4196) = true := bne_iff_ne.mpr c12
                        by_cases c13 : a0 = 4203
                        · rw [if_pos c13] at H
                          have c13b0 : (a0 == 4203) = true := beq_iff_eq.mpr c13
                          have c13b1 : (a0 != 4203) = false := bne_eq_false_iff_eq.mpr c13
                          clear c13
                          obtain rfl := Option.some.inj H
                          go_enter Tryd.func24, Tryd.ntmps24
                          go_wp2
                          go_ret
                          exact ⟨by first | rfl | (simp; done) | (simp [*]; done), by repeat (first | exact Drawn0.refl _ | apply Drawn0.step)⟩
                        · rw [if_neg c13] at H
                          have c13b0 : (a0 == 4203) = false := beq_eq_false_iff_ne.mpr c13
                          have c13b1 : (a0 != 4203) = true := bne_iff_ne.mpr c13
                          by_cases c14 : a0 = 4206
                          · rw [if_pos c14] at H
                            have c14b0 : (a0 == 4206) = true := beq_iff_eq.mpr c14
                            have c14b1 : (a0 != 4206) = false := bne_eq_false_iff_eq.mpr c14
                            clear c14
                            obtain rfl := Option.some.inj H
                            go_enter Tryd.func24, Tryd.ntmps24
                            go_wp2
                            go_ret
                            exact ⟨by first | rfl | (simp; done) | (simp [*]; done), by repeat (first | exact Drawn0.refl _ | apply Drawn0.step)⟩
                          · rw [if_neg c14] at H
                            have c14b0 : (a0 == 4206) = false := beq_eq_false_iff_ne.mpr c14
                            have c14b1 : (a0 != 4206) = true := bne_iff_ne.mpr c14
                            by_cases c15 : a0 = 4210
                            · rw [if_pos c15] at H
                              have c15b0 : (a0 == 4210) = true := beq_iff_eq.mpr c15
                              have c15b1 : (a0 != 4210) = false := bne_eq_false_iff_eq.mpr c15
                              clear c15
                              obtain rfl := Option.some.inj H
                              go_enter Tryd.func24, Tryd.ntmps24
                              go_wp2
                              go_ret
                              exact ⟨by first | rfl | (simp; done) | (simp [*]; done), by repeat (first | exact Drawn0.refl _ | apply Drawn0.step)⟩
                            · rw [if_neg c15] at H
                              have c15b0 : (a0 == 4210) = false := beq_eq_false_iff_ne.mpr c15
                              have c15b1 : (a0 != 4210) = true := bne_iff_ne.mpr c15
                              by_cases c16 : a0 = 4213
                              · rw [if_pos c16] at H
                                have c16b0 : (a0 == 4213) = true := beq_iff_eq.mpr c16
                                have c16b1 : (a0 != 4213) = false := bne_eq_false_iff_eq.mpr c16
                                clear c16
                                obtain rfl := Option.some.inj H
                                go_enter Tryd.func24, Tryd.ntmps24
                                go_wp2
                                go_ret
                                exact ⟨by first | rfl | (simp; done) | (simp [*]; done), by repeat (first | exact Drawn0.refl _ | apply Drawn0.step)⟩
                              · rw [if_neg c16] at H
                                have c16b0 : (a0 == 4213) = false := beq_eq_false_iff_ne.mpr c16
                                have c16b1 : (a0 != 4213) = true := bne_iff_ne.mpr c16
                                by_cases c17 : a0 = 4214
                                · rw [if_pos c17] at H
                                  have c17b0 : (a0 == 4214) = true := beq_iff_eq.mpr c17
                                  have c17b1 : (a0 != 4214) = false := bne_eq_false_iff_eq.mpr c17
                                  clear c17
                                  obtain rfl := Option.some.inj H
                                  go_enter Tryd.func24, Tryd.ntmps24
                                  go_wp2
                                  go_ret
                                  exact ⟨by first | rfl | (simp; done) | (simp [*]; done), by repeat (first | exact Drawn0.refl _ | apply Drawn0.step)⟩
                                · rw [if_neg c17] at H
                                  have c17b0 : (a0 == 4214) = false := beq_eq_false_iff_ne.mpr c17
                                  have c17b1 : (a0 != 4214) = true := bne_iff_ne.mpr c17
                                  by_cases c18 : a0 = 4215
                                  · rw [if_pos c18] at H
                                    have c18b0 : (a0 == 4215) = true := beq_iff_eq.mpr c18
                                    have c18b1 : (a0 != 4215) = false := bne_eq_false_iff_eq.mpr c18
                                    clear c18
                                    obtain rfl := Option.some.inj H
                                    go_enter Tryd.func24, Tryd.ntmps24
                                    go_wp2
                                    go_ret
                                    exact ⟨by first | rfl | (simp; done) | (simp [*]; done), by repeat (first | exact Drawn0.refl _ | apply Drawn0.step)⟩
                                  · rw [if_neg c18] at H
                                    have c18b0 : (a0 == 4215) = false := beq_eq_false_iff_ne.mpr c18
                                    have c18b1 : (a0 != 4215) = true := bne_iff_ne.mpr c18
                                    by_cases c19 : a0 = 4219
                                    · rw [if_pos c19] at H
                                      have c19b0 : (a0 == 4219) = true := beq_iff_eq.mpr c19
                                      have c19b1 : (a0 != 4219) = false := bne_eq_false_iff_eq.mpr c19
                                      clear c19
                                      obtain rfl := Option.some.inj H
                                      go_enter Tryd.func24, Tryd.ntmps24
                                      go_wp2
                                      go_ret
                                      exact ⟨by first | rfl | (simp; done) | (simp [*]; done), by repeat (first | exact Drawn0.refl _ | apply Drawn0.step)⟩
                                    · rw [if_neg c19] at H
                                      have c19b0 : (a0 == 4219) = false := beq_eq_false_iff_ne.mpr c19
                                      have c19b1 : (a0 != 4219) = true := bne_iff_ne.mpr c19
                                      by_cases c20 : a0 = 4246
                                      · rw [if_pos c20] at H
                                        have c20b0 : (a0 == 4246) = true := beq_iff_eq.mpr c20
                                        have c20b1 : (a0 != 4246) = false := bne_eq_false_iff_eq.mpr c20
                                        clear c20
                                        obtain rfl := Option.some.inj H
                                        go_enter Tryd.func24, Tryd.ntmps24
                                        go_wp2
                                        go_ret
                                        exact ⟨by first | rfl | (simp; done) | (simp [*]; done), by repeat (first | exact Drawn0.refl _ | apply Drawn0.step)⟩
                                      · rw [if_neg c20] at H
                                        have c20b0 : (a0 == 4246) = false := beq_eq_false_iff_ne.mpr c20
                                        have c20b1 : (a0 != 4246) = true := bne_iff_ne.mpr c20
                                        by_cases c21 : a0 = 4263
                                        · rw [if_pos c21] at H
                                          have c21b0 : (a0 == 4263) = true := beq_iff_eq.mpr c21
                                          have c21b1 : (a0 != 4263) = false := bne_eq_false_iff_eq.mpr c21
                                          clear c21
                                          obtain rfl := Option.some.inj H
                                          go_enter Tryd.func24, Tryd.ntmps24
                                          go_wp2
                                          go_ret
                                          exact ⟨by first | rfl | (simp; done) | (simp [*]; done), by repeat (first | exact Drawn0.refl _ | apply Drawn0.step)⟩
                                        · rw [if_neg c21] at H
                                          have c21b0 : (a0 == 4263) = false := beq_eq_false_iff_ne.mpr c21
                                          have c21b1 : (a0 != 4263) = true := bne_iff_ne.mpr c21
                                          by_cases c22 : a0 = 4283
                                          · rw [if_pos c22] at H
                                            have c22b0 : (a0 == 4283) = true := beq_iff_eq.mpr c22
                                            have c22b1 : (a0 != 4283) = false := bne_eq_false_iff_eq.mpr c22
                                            clear c22
                                            obtain rfl := Option.some.inj H
                                            go_enter Tryd.func24, Tryd.ntmps24
                                            go_wp2
                                            go_ret
                                            exact ⟨by first | rfl | (simp; done) | (simp [*]; done), by repeat (first | exact Drawn0.refl _ | apply Drawn0.step)⟩
                                          · rw [if_neg c22] at H
                                            have c22b0 : (a0 == 4283) = false := beq_eq_false_iff_ne.mpr c22
                                            have c22b1 : (a0 != 4283) = true := bne_iff_ne.mpr c22
                                            by_cases c23 : a0 = 4353
                                            · rw [if_pos c23] at H
                                              have c23b0 : (a0 == 4353) = true := beq_iff_eq.mpr c23
                                              have c23b1 : (a0 != 4353) = false := bne_eq_false_iff_eq.mpr c23
                                              clear c23
                                              obtain rfl := Option.some.inj H
                                              go_enter Tryd.func24, Tryd.ntmps24
                                              go_wp2
                                              go_ret
                                              exact ⟨by first | rfl | (simp; done) | (simp [*]; done), by repeat (first | exact Drawn0.refl _ | apply Drawn0.step)⟩
                                            · rw [if_neg c23] at H
                                              have c23b0 : (a0 == 4353) = false := beq_eq_false_iff_ne.mpr c23
                                              have c23b1 : (a0 != 4353) = true := bne_iff_ne.mpr c23
                                              obtain rfl := Option.some.inj H
                                              go_enter Tryd.func24, Tryd.ntmps24
                                              go_wp2
                                              go_ret
                                              exact ⟨by first | rfl | (simp; done) | (simp [*]; done), by repeat (first | exact Drawn0.refl _ | apply Drawn0.step)⟩

end Go.Proofs.YtijghmpapmfndaaDoor.F
