import Derived.Test.YtgkjdpdmmlalcaaTZF0
import Derived.Test.YtgkjdpdmmlalcaaTA0
section
namespace Go.Proofs.Ytgkjdpdmmlalcaa.F
open Go.RowKit Go.Proofs.YtgkjdpdmmlalcaaW.PrintWords Go.Proofs.YtgkjdpdmmlalcaaW.PrintLast Go.Proofs.YtgkjdpdmmlalcaaW.PrintMore
attribute [local go_sem] max2_int min2_int max_two min_two max_three min_three max_four min_four
set_option linter.unusedVariables false
set_option linter.unusedSimpArgs false

mutual
def ferryref04_with.l0 : Nat → List (S41) → Int → Int → Int → List (S41) → Bool → Int → Option ((List (S41)))
  | 0, _, _, _, _, _, _, _ => none
  | k + 1, x0, x1, x2, x3, x9, x10, x11 => if x11 ≤ (x0.length : Int) then (if x10 = true then (ferryref04_with.j1 k x0 x1 x2 x3 x9 x10 x11 false) else (if x11 = (x0.length : Int) then (ferryref04_with.j1 k x0 x1 x2 x3 x9 x10 x11 true) else (if 0 ≤ x11 then (if x11 < (x0.length : Int) then (ferryref04_with.j1 k x0 x1 x2 x3 x9 x10 x11 (decide (((rd_T41 x0 x11).f0) > x1))) else (none)) else (none)))) else (some x9)
def ferryref04_with.j1 : Nat → List (S41) → Int → Int → Int → List (S41) → Bool → Int → Bool → Option ((List (S41)))
  | 0, _, _, _, _, _, _, _, _ => none
  | k + 1, x0, x1, x2, x3, x9, x10, x11, x35 => if x35 = true then (ferryref04_with.l1 k x0 x1 x2 x3 x9 x11 0) else (if x11 < (x0.length : Int) then (if 0 ≤ x11 then (if x9.length < 8796093022208 then (ferryref04_with.l0 k x0 x1 x2 x3 (x9 ++ [(⟨(rd_T41 x0 x11).f0, (rd_T41 x0 x11).f1⟩ : S41)]) x10 (wrap64 (x11 + 1))) else (none)) else (none)) else (ferryref04_with.l0 k x0 x1 x2 x3 x9 x10 (wrap64 (x11 + 1))))
def ferryref04_with.l1 : Nat → List (S41) → Int → Int → Int → List (S41) → Int → Int → Option ((List (S41)))
  | 0, _, _, _, _, _, _, _ => none
  | k + 1, x0, x1, x2, x3, x9, x11, x12 => if x12 < x2 then (if x9.length < 8796093022208 then (ferryref04_with.l1 k x0 x1 x2 x3 (x9 ++ [(⟨(x1 + x12) % 4294967296, x3⟩ : S41)]) x11 ((x12 + 1) % 4294967296)) else (none)) else (if x11 < (x0.length : Int) then (if 0 ≤ x11 then (if x9.length < 8796093022208 then (ferryref04_with.l0 k x0 x1 x2 x3 (x9 ++ [(⟨(rd_T41 x0 x11).f0, (rd_T41 x0 x11).f1⟩ : S41)]) true (wrap64 (x11 + 1))) else (none)) else (none)) else (ferryref04_with.l0 k x0 x1 x2 x3 x9 true (wrap64 (x11 + 1))))
end
def ferryref04_with.f (k : Nat) (l0 : List (S41)) (a1 : Int) (a2 : Int) (a3 : Int) : Option ((List (S41))) := ferryref04_with.l0 k l0 a1 a2 a3 ([] : List (S41)) false 0
theorem ferryref04_with.mono_l : ∀ k, (∀ y0 y1 y2 y3 y4 y5 y6, LeO (ferryref04_with.l0 k y0 y1 y2 y3 y4 y5 y6) (ferryref04_with.l0 (k + 1) y0 y1 y2 y3 y4 y5 y6)) ∧ (∀ y0 y1 y2 y3 y4 y5 y6 y7, LeO (ferryref04_with.j1 k y0 y1 y2 y3 y4 y5 y6 y7) (ferryref04_with.j1 (k + 1) y0 y1 y2 y3 y4 y5 y6 y7)) ∧ (∀ y0 y1 y2 y3 y4 y5 y6, LeO (ferryref04_with.l1 k y0 y1 y2 y3 y4 y5 y6) (ferryref04_with.l1 (k + 1) y0 y1 y2 y3 y4 y5 y6))
  | 0 => ⟨fun _ _ _ _ _ _ _ r h => by simp [ferryref04_with.l0] at h, fun _ _ _ _ _ _ _ _ r h => by simp [ferryref04_with.j1] at h, fun _ _ _ _ _ _ _ r h => by simp [ferryref04_with.l1] at h⟩
  | k + 1 => by
    obtain ⟨ih0, ih1, ih2⟩ := ferryref04_with.mono_l k
    refine ⟨?_, ?_, ?_⟩
    · intro y0 y1 y2 y3 y4 y5 y6
      unfold ferryref04_with.l0
      exact moT_
    · intro y0 y1 y2 y3 y4 y5 y6 y7
      unfold ferryref04_with.j1
      exact moT_
    · intro y0 y1 y2 y3 y4 y5 y6
      unfold ferryref04_with.l1
      exact moT_
theorem ferryref04_with.mono : ∀ a0 a1 a2 a3 k, LeO (ferryref04_with.f k a0 a1 a2 a3) (ferryref04_with.f (k + 1) a0 a1 a2 a3) := by
  intro a0 a1 a2 a3 k
  obtain ⟨ih0, ih1, ih2⟩ := ferryref04_with.mono_l k
  unfold ferryref04_with.f
  exact moT_
set_option maxHeartbeats 8000000 in
set_option maxRecDepth 100000 in
theorem ferryref04_with.calls (k : Nat) (A0 : Option Addr) (c0 : Nat) (l0 : List (S41)) (a1 : Int) (a2 : Int) (a3 : Int) (r : List (S41)) (w : World) (hr0 : Kd.C k41 w A0 l0.length l0) (hc0 : l0.length ≤ c0) (h : ferryref04_with.f k l0 a1 a2 a3 = some r) :
    Calls Try.prog 74 #[.slice A0 l0.length c0, .int .u32 a1, .int .u32 a2, .int .i64 a3] w fun e w' => ∃ v0_ : Value, e = .returned (v0_) ∧ Kd.R k41 41 w' w.heap.size (fun _ => True) v0_ r ∧ Below w.heap.size w w' := by
  have hu41 := Try.underlying41
  have HR0 := Aside0.mk hr0
  have HC0 := Aside0.mk hc0
  clear hr0 hc0
  have HB := Aside0.mk (Below.refl w.heap.size w)
  have H : (ferryref04_with.l0 k l0 a1 a2 a3 ([] : List (S41)) false 0) = some r := h
  clear h
  have H' := Aside0.mk H
  clear H
  go_enter Try.func74, Try.ntmps74
  go_wp2
  go_loopg [9, 10, 11] k (fun kq v9 v10 v11 w' => ∃ (x9_1 : List (S41)) (x10_1 : Bool) (x11_1 : Int), v10 = .bool x10_1 ∧ v11 = .int .i64 x11_1 ∧ Aside0 (ferryref04_with.l0 kq l0 a1 a2 a3 x9_1 x10_1 x11_1 = some r) ∧ Aside0 (kq ≤ k) ∧ Aside0 (Kd.R k41 41 w' w.heap.size (fun _ => True) v9 x9_1) ∧ Aside0 (Below w.heap.size w w'))
  case atStart => exact ⟨(([] : List (S41))), (false), (0), r1_, r1_, H', ⟨Nat.le_refl _⟩, ⟨by first | exact Kd.R_nil _ _ _ _ _ | exact Kd.N_nil _ _ _ _ _ | exact Kd.V_nil _ _ _ _ _ | exact Kd.Q_nil _ _ _ _ _ | exact Kd.S_nil _ _ _ _ _⟩, ⟨beT_⟩⟩
  case round =>
    clear H'
    try clear p2
    obtain ⟨x9_1, x10_1, x11_1, rfl, rfl, HA, HK1, HO_9, HB⟩ := hrel
    cases gk with
    | zero => exact absurd HA.out (by simp [ferryref04_with.l0])
    | succ k1 =>
      have H := HA.out
      clear HA
      simp only [ferryref04_with.l0] at H
      by_cases c5 : x11_1 ≤ (l0.length : Int)
      · rw [if_pos c5] at H
        have c5b0 : decide (x11_1 ≤ (l0.length : Int)) = true := decide_eq_true c5
        clear c5
        have HC6 := Aside0.mk H
        clear H
        go_upto_region 6 with (fail)
        go_cut [35] (fun v35 wc => ∃ (kq : Nat) (x35_5 : Bool), v35 = .bool x35_5 ∧ Aside0 (ferryref04_with.j1 kq l0 a1 a2 a3 x9_1 x10_1 x11_1 x35_5 = some r) ∧ Aside0 (kq ≤ k1) ∧ Aside0 (Kd.R k41 41 wc w.heap.size (fun _ => True) u9 x9_1) ∧ Aside0 (Below w.heap.size w wc))
        case first =>
          have H := HC6.out
          clear HC6
          by_cases c7 : x10_1 = true
          · subst c7
            replace H := hP_ H
            have H' := Aside0.mk H
            clear H
            go_wp2
            go_meet
            case rel => exact ⟨_, (false), r1_, H', ⟨by have := HK1.out; first | omega | exact Nat.le_refl _⟩, ⟨rT_ HO_9.out⟩, ⟨beT_⟩⟩
          replace c7 := Bool.eq_false_iff.mpr c7
          subst c7
          replace H := hN_ H
          by_cases c8 : x11_1 = (l0.length : Int)
          · rw [if_pos c8] at H
            have c8b0 : (x11_1 == (l0.length : Int)) = true := beq_iff_eq.mpr c8
            have c8b1 : (x11_1 != (l0.length : Int)) = false := bne_eq_false_iff_eq.mpr c8
            clear c8
            (first | rw [c8b0] | (simp only [i64_w, i32_w]; rw [c8b0]) | skip)
            have H' := Aside0.mk H
            clear H
            go_wp2
            go_meet
            case rel => exact ⟨_, (true), r1_, H', ⟨by have := HK1.out; first | omega | exact Nat.le_refl _⟩, ⟨rT_ HO_9.out⟩, ⟨beT_⟩⟩
          rw [if_neg c8] at H
          have c8b0 : (x11_1 == (l0.length : Int)) = false := beq_eq_false_iff_ne.mpr c8
          have c8b1 : (x11_1 != (l0.length : Int)) = true := bne_iff_ne.mpr c8
          (first | rw [c8b0] | (simp only [i64_w, i32_w]; rw [c8b0]) | skip)
          by_cases c9 : 0 ≤ x11_1
          · rw [if_pos c9] at H
            have c9b0 : decide (0 ≤ x11_1) = true := decide_eq_true c9
            clear c9
            by_cases c10 : x11_1 < (l0.length : Int)
            · rw [if_pos c10] at H
              have c10b0 : decide (x11_1 < (l0.length : Int)) = true := decide_eq_true c10
              clear c10
              have H' := Aside0.mk H
              clear H
              have p214 : 0 ≤ (x11_1 : Int) := dT_
              have q214 : x11_1 < (l0.length : Int) := dT_
              obtain ⟨ad214, e214, hx214_0, hx214_1⟩ := at_T41 HR0.out x11_1 p214 q214
              cases e214
              replace hx214_0 := hX_ hx214_0
              replace hx214_1 := hX_ hx214_1
              replace p214 := eq_true p214
              replace q214 := eq_true q214
              go_wp2
              go_meet
              case rel => exact ⟨_, (decide (((rd_T41 l0 x11_1).f0) > a1)), r1_, H', ⟨by have := HK1.out; first | omega | exact Nat.le_refl _⟩, ⟨rT_ HO_9.out⟩, ⟨beT_⟩⟩
            rw [if_neg c10] at H
            exact absurd H (by simp)
          rw [if_neg c9] at H
          exact absurd H (by simp)
        case rest =>
          clear HC6
          try clear c1
          try clear p2
          try clear q2
          try clear hx2
          try clear c5
          try clear c5b0
          try clear c7
          try clear c8
          try clear c8b0
          try clear c8b1
          try clear c9
          try clear c9b0
          try clear c10
          try clear c10b0
          try clear hx214_0
          try clear hx214_1
          try clear p2
          try clear p214
          try clear q214
          obtain ⟨kq, x35_5, rfl, HA, HJ5, HO_9, HB⟩ := hcut
          cases kq with
          | zero => exact absurd HA.out (by simp [ferryref04_with.j1])
          | succ kj5 =>
            have H := HA.out
            clear HA
            simp only [ferryref04_with.j1] at H
            by_cases c11 : x35_5 = true
            · subst c11
              replace H := hP_ H
              have H' := Aside0.mk H
              clear H
              go_wp2
              go_loopg [9, 12] kj5 (fun kq v9 v12 w' => ∃ (x9_3 : List (S41)) (x12_3 : Int), v12 = .int .u32 x12_3 ∧ Aside0 (ferryref04_with.l1 kq l0 a1 a2 a3 x9_3 x11_1 x12_3 = some r) ∧ Aside0 (kq ≤ kj5) ∧ Aside0 (Kd.R k41 41 w' w.heap.size (fun _ => True) v9 x9_3) ∧ Aside0 (Below w.heap.size w w'))
              case atStart => exact ⟨(x9_1), (0), r1_, H', ⟨Nat.le_refl _⟩, ⟨rT_ HO_9.out⟩, ⟨beT_⟩⟩
              case round =>
                clear H'
                try clear c1
                try clear p2
                try clear q2
                try clear hx2
                try clear c5
                try clear c5b0
                try clear c7
                try clear c8
                try clear c8b0
                try clear c8b1
                try clear c9
                try clear c9b0
                try clear c10
                try clear c10b0
                try clear c11
                try clear hx214_0
                try clear hx214_1
                try clear p2
                try clear p214
                try clear q2
                try clear q214
                obtain ⟨x9_3, x12_3, rfl, HA, HK3, HO_9, HB⟩ := hrel
                cases gk with
                | zero => exact absurd HA.out (by simp [ferryref04_with.l1])
                | succ k3 =>
                  have H := HA.out
                  clear HA
                  simp only [ferryref04_with.l1] at H
                  by_cases c12 : x12_3 < a2
                  · rw [if_pos c12] at H
                    have c12b0 : decide (x12_3 < a2) = true := decide_eq_true c12
                    clear c12
                    by_cases c13 : x9_3.length < 8796093022208
                    · rw [if_pos c13] at H
                      have LMc13 := Aside0.mk c13
                      clear c13
                      obtain ⟨y215, hy215⟩ : ∃ y_ : List (S41), y_ = (x9_3 ++ [(⟨(a1 + x12_3) % 4294967296, a3⟩ : S41)]) := ⟨_, rfl⟩
                      replace H : (ferryref04_with.l1 k3 l0 a1 a2 a3 y215 x11_1 ((x12_3 + 1) % 4294967296)) = some r := by first | (rw [hy215]; with_reducible exact H) | (have H2_ := (Option.bind_some _ _).symm.trans H; rw [hy215]; with_reducible exact H2_) | (have H2_ := (Option.bind_some _ _).symm.trans H; with_reducible exact H2_) | with_reducible exact H | (rw [hy215]; exact H) | exact H
                      have Ny215 := Aside0.mk hy215
                      clear hy215
                      have H' := Aside0.mk H
                      clear H
                      go_wp2_with (first | ((with_reducible refine gate_builtin (b := .append) (xs := #[.tmp 41, .tmp 47]) rfl ?_); (try (refine gate_guard (by rfl) ?_; dsimp only)); at_builtin; refine Kd.R_append k41 (w0 := w) w.heap.size rfl (.tmp 41) (.tmp 47) 27 41 (.agg #[(.int .u32 0), (.int .i64 0)]) 16 rfl Try.underlying27 info41 rfl (by decide) (by omega) u9 x9_3 (⟨(a1 + x12_3) % 4294967296, a3⟩ : S41) [.int .u32 ((a1 + x12_3) % 4294967296), .int .i64 a3] (fun _ => True) (fun _ => False) rfl rfl ?aP (fun _ hk => hk.elim) ?aF ?aO ?aB ?aS ?aL ?_; (case aP => exact k41_mkM _ _ _ (⟨(a1 + x12_3) % 4294967296, a3⟩ : S41)); (case aB => exact beT_); (case aF => exact (fun _ _ => trivial)); (case aO => exact (rT_ HO_9.out)); (case aS => exact (below_size beT_)); (case aL => have := LMc13.out; omega); intro v216 w14 ho hb hg hat; rw [← Ny215.out] at ho; have HO217 := Aside0.mk ho; replace HB := Aside0.mk hb; clear HO_9; clear ho hb hg hat))
                      go_roundg k3
                      case measure => have := HK1.out; have := HJ5.out; have := HK3.out; omega
                      case rel => exact ⟨(y215), ((x12_3 + 1) % 4294967296), r1_, H', ⟨by have := HK1.out; have := HJ5.out; have := HK3.out; omega⟩, ⟨rT_ HO217.out⟩, ⟨beT_⟩⟩
                    rw [if_neg c13] at H
                    exact absurd H (by simp)
                  rw [if_neg c12] at H
                  have c12b0 : decide (x12_3 < a2) = false := decide_eq_false c12
                  clear c12
                  by_cases c15 : x11_1 < (l0.length : Int)
                  · rw [if_pos c15] at H
                    have c15b0 : decide (x11_1 < (l0.length : Int)) = true := decide_eq_true c15
                    clear c15
                    by_cases c16 : 0 ≤ x11_1
                    · rw [if_pos c16] at H
                      have c16b0 : decide (0 ≤ x11_1) = true := decide_eq_true c16
                      clear c16
                      by_cases c17 : x9_3.length < 8796093022208
                      · rw [if_pos c17] at H
                        have LMc17 := Aside0.mk c17
                        clear c17
                        obtain ⟨y219, hy219⟩ : ∃ y_ : List (S41), y_ = (x9_3 ++ [(⟨(rd_T41 l0 x11_1).f0, (rd_T41 l0 x11_1).f1⟩ : S41)]) := ⟨_, rfl⟩
                        replace H : (ferryref04_with.l0 k3 l0 a1 a2 a3 y219 true (wrap64 (x11_1 + 1))) = some r := by first | (rw [hy219]; with_reducible exact H) | (have H2_ := (Option.bind_some _ _).symm.trans H; rw [hy219]; with_reducible exact H2_) | (have H2_ := (Option.bind_some _ _).symm.trans H; with_reducible exact H2_) | with_reducible exact H | (rw [hy219]; exact H) | exact H
                        have Ny219 := Aside0.mk hy219
                        clear hy219
                        have H' := Aside0.mk H
                        clear H
                        have p218 : 0 ≤ (x11_1 : Int) := dT_
                        have q218 : x11_1 < (l0.length : Int) := dT_
                        obtain ⟨ad218, e218, hx218_0, hx218_1⟩ := at_T41 HR0.out x11_1 p218 q218
                        cases e218
                        replace hx218_0 := hX_ hx218_0
                        replace hx218_1 := hX_ hx218_1
                        replace p218 := eq_true p218
                        replace q218 := eq_true q218
                        go_wp2_with (first | ((with_reducible refine gate_builtin (b := .append) (xs := #[.tmp 53, .tmp 58]) rfl ?_); (try (refine gate_guard (by rfl) ?_; dsimp only)); at_builtin; refine Kd.R_append k41 (w0 := w) w.heap.size rfl (.tmp 53) (.tmp 58) 27 41 (.agg #[(.int .u32 0), (.int .i64 0)]) 16 rfl Try.underlying27 info41 rfl (by decide) (by omega) u9 x9_3 (⟨(rd_T41 l0 x11_1).f0, (rd_T41 l0 x11_1).f1⟩ : S41) [.int .u32 ((rd_T41 l0 x11_1).f0), .int .i64 ((rd_T41 l0 x11_1).f1)] (fun _ => True) (fun _ => False) rfl rfl ?aP (fun _ hk => hk.elim) ?aF ?aO ?aB ?aS ?aL ?_; (case aP => exact k41_mkM _ _ _ (⟨(rd_T41 l0 x11_1).f0, (rd_T41 l0 x11_1).f1⟩ : S41)); (case aB => exact beT_); (case aF => exact (fun _ _ => trivial)); (case aO => exact (rT_ HO_9.out)); (case aS => exact (below_size beT_)); (case aL => have := LMc17.out; omega); intro v220 w18 ho hb hg hat; rw [← Ny219.out] at ho; have HO221 := Aside0.mk ho; replace HB := Aside0.mk hb; clear HO_9; clear ho hb hg hat))
                        go_roundg k3
                        case measure => have := HK1.out; have := HJ5.out; have := HK3.out; omega
                        case rel => exact ⟨(y219), (true), (wrap64 (x11_1 + 1)), r1_, r1_, H', ⟨by have := HK1.out; have := HJ5.out; have := HK3.out; omega⟩, ⟨rT_ HO221.out⟩, ⟨beT_⟩⟩
                      rw [if_neg c17] at H
                      exact absurd H (by simp)
                    rw [if_neg c16] at H
                    exact absurd H (by simp)
                  rw [if_neg c15] at H
                  have c15b0 : decide (x11_1 < (l0.length : Int)) = false := decide_eq_false c15
                  clear c15
                  have H' := Aside0.mk H
                  clear H
                  go_wp2
                  go_roundg k3
                  case measure => have := HK1.out; have := HJ5.out; have := HK3.out; omega
                  case rel => exact ⟨(x9_3), (true), (wrap64 (x11_1 + 1)), r1_, r1_, H', ⟨by have := HK1.out; have := HJ5.out; have := HK3.out; omega⟩, ⟨rT_ HO_9.out⟩, ⟨beT_⟩⟩
            replace c11 := Bool.eq_false_iff.mpr c11
            subst c11
            replace H := hN_ H
            by_cases c19 : x11_1 < (l0.length : Int)
            · rw [if_pos c19] at H
              have c19b0 : decide (x11_1 < (l0.length : Int)) = true := decide_eq_true c19
              clear c19
              by_cases c20 : 0 ≤ x11_1
              · rw [if_pos c20] at H
                have c20b0 : decide (0 ≤ x11_1) = true := decide_eq_true c20
                clear c20
                by_cases c21 : x9_1.length < 8796093022208
                · rw [if_pos c21] at H
                  have LMc21 := Aside0.mk c21
                  clear c21
                  obtain ⟨y223, hy223⟩ : ∃ y_ : List (S41), y_ = (x9_1 ++ [(⟨(rd_T41 l0 x11_1).f0, (rd_T41 l0 x11_1).f1⟩ : S41)]) := ⟨_, rfl⟩
                  replace H : (ferryref04_with.l0 kj5 l0 a1 a2 a3 y223 x10_1 (wrap64 (x11_1 + 1))) = some r := by first | (rw [hy223]; with_reducible exact H) | (have H2_ := (Option.bind_some _ _).symm.trans H; rw [hy223]; with_reducible exact H2_) | (have H2_ := (Option.bind_some _ _).symm.trans H; with_reducible exact H2_) | with_reducible exact H | (rw [hy223]; exact H) | exact H
                  have Ny223 := Aside0.mk hy223
                  clear hy223
                  have H' := Aside0.mk H
                  clear H
                  have p222 : 0 ≤ (x11_1 : Int) := dT_
                  have q222 : x11_1 < (l0.length : Int) := dT_
                  obtain ⟨ad222, e222, hx222_0, hx222_1⟩ := at_T41 HR0.out x11_1 p222 q222
                  cases e222
                  replace hx222_0 := hX_ hx222_0
                  replace hx222_1 := hX_ hx222_1
                  replace p222 := eq_true p222
                  replace q222 := eq_true q222
                  go_wp2_with (first | ((with_reducible refine gate_builtin (b := .append) (xs := #[.tmp 53, .tmp 58]) rfl ?_); (try (refine gate_guard (by rfl) ?_; dsimp only)); at_builtin; refine Kd.R_append k41 (w0 := w) w.heap.size rfl (.tmp 53) (.tmp 58) 27 41 (.agg #[(.int .u32 0), (.int .i64 0)]) 16 rfl Try.underlying27 info41 rfl (by decide) (by omega) u9 x9_1 (⟨(rd_T41 l0 x11_1).f0, (rd_T41 l0 x11_1).f1⟩ : S41) [.int .u32 ((rd_T41 l0 x11_1).f0), .int .i64 ((rd_T41 l0 x11_1).f1)] (fun _ => True) (fun _ => False) rfl rfl ?aP (fun _ hk => hk.elim) ?aF ?aO ?aB ?aS ?aL ?_; (case aP => exact k41_mkM _ _ _ (⟨(rd_T41 l0 x11_1).f0, (rd_T41 l0 x11_1).f1⟩ : S41)); (case aB => exact beT_); (case aF => exact (fun _ _ => trivial)); (case aO => exact (rT_ HO_9.out)); (case aS => exact (below_size beT_)); (case aL => have := LMc21.out; omega); intro v224 w22 ho hb hg hat; rw [← Ny223.out] at ho; have HO225 := Aside0.mk ho; replace HB := Aside0.mk hb; clear HO_9; clear ho hb hg hat))
                  go_roundg kj5
                  case measure => have := HK1.out; have := HJ5.out; omega
                  case rel => exact ⟨(y223), (x10_1), (wrap64 (x11_1 + 1)), r1_, r1_, H', ⟨by have := HK1.out; have := HJ5.out; omega⟩, ⟨rT_ HO225.out⟩, ⟨beT_⟩⟩
                rw [if_neg c21] at H
                exact absurd H (by simp)
              rw [if_neg c20] at H
              exact absurd H (by simp)
            rw [if_neg c19] at H
            have c19b0 : decide (x11_1 < (l0.length : Int)) = false := decide_eq_false c19
            clear c19
            have H' := Aside0.mk H
            clear H
            go_wp2
            go_roundg kj5
            case measure => have := HK1.out; have := HJ5.out; omega
            case rel => exact ⟨(x9_1), (x10_1), (wrap64 (x11_1 + 1)), r1_, r1_, H', ⟨by have := HK1.out; have := HJ5.out; omega⟩, ⟨rT_ HO_9.out⟩, ⟨beT_⟩⟩
      rw [if_neg c5] at H
      have c5b0 : decide (x11_1 ≤ (l0.length : Int)) = false := decide_eq_false c5
      clear c5
      obtain rfl := Option.some.inj H
      go_wp2
      go_ret
      exact ⟨_, r3_, (rT_ HO_9.out), beT_⟩

end Go.Proofs.Ytgkjdpdmmlalcaa.F
end
