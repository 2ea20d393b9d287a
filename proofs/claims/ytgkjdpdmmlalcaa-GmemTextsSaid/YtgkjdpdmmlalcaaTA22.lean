import Derived.Test.YtgkjdpdmmlalcaaTZF0
import Derived.Test.YtgkjdpdmmlalcaaTA0
import Derived.Test.YtgkjdpdmmlalcaaTA6
section
namespace Go.Proofs.Ytgkjdpdmmlalcaa.F
open Go.RowKit Go.Proofs.YtgkjdpdmmlalcaaW.PrintWords Go.Proofs.YtgkjdpdmmlalcaaW.PrintLast Go.Proofs.YtgkjdpdmmlalcaaW.PrintMore
attribute [local go_sem] max2_int min2_int max_two min_two max_three min_three max_four min_four
set_option linter.unusedVariables false
set_option linter.unusedSimpArgs false

def ferryref04_Place.f (l0_0 : List (S83)) (l0_1 : List (S88)) (a0_2 : Int) (l0_3 : List (S41)) (a1 : Int) : Option (Int) := some (IntKind.u64.wrap (a0_2 + (IntKind.u64.wrap (a1))))
set_option maxHeartbeats 8000000 in
set_option maxRecDepth 100000 in
theorem ferryref04_Place.calls (A0_0 : Option Addr) (c0_0 : Nat) (l0_0 : List (S83)) (A0_1 : Option Addr) (c0_1 : Nat) (l0_1 : List (S88)) (a0_2 : Int) (A0_3 : Option Addr) (c0_3 : Nat) (l0_3 : List (S41)) (a1 : Int) (r : Int) (w : World) (hr0_0 : Kd.C k83 w A0_0 l0_0.length l0_0) (hc0_0 : l0_0.length ≤ c0_0) (hr0_1 : Kd.C k88 w A0_1 l0_1.length l0_1) (hc0_1 : l0_1.length ≤ c0_1) (hr0_3 : Kd.C k41 w A0_3 l0_3.length l0_3) (hc0_3 : l0_3.length ≤ c0_3) (h : ferryref04_Place.f l0_0 l0_1 a0_2 l0_3 a1 = some r) :
    Calls Try.prog 14 #[.agg #[.slice A0_0 l0_0.length c0_0, .slice A0_1 l0_1.length c0_1, .int .u64 a0_2, .slice A0_3 l0_3.length c0_3], .int .u32 a1] w fun e w' => e = .returned (.int .u64 r) ∧ Below w.heap.size w w' := by
  have hu29 := Try.underlying29
  have HR0_0 := Aside0.mk hr0_0
  have HC0_0 := Aside0.mk hc0_0
  clear hr0_0 hc0_0
  have HR0_1 := Aside0.mk hr0_1
  have HC0_1 := Aside0.mk hc0_1
  clear hr0_1 hc0_1
  have HR0_3 := Aside0.mk hr0_3
  have HC0_3 := Aside0.mk hc0_3
  clear hr0_3 hc0_3
  have HB := Aside0.mk (Below.refl w.heap.size w)
  have H : (some (IntKind.u64.wrap (a0_2 + (IntKind.u64.wrap (a1))))) = some r := h
  clear h
  obtain rfl := Option.some.inj H
  go_enter Try.func14, Try.ntmps14
  go_wp2_with (first | ((with_reducible refine gate_dst (N := 2) rfl ?_); refine bE_ 2 #[.slice A0_0 l0_0.length c0_0, .slice A0_1 l0_1.length c0_1, .int .u64 a0_2, .slice A0_3 l0_3.length c0_3] 29 ?_; intro gb179 hg w3 hbox hb; have BK179 := Aside0.mk hbox; have GW179 := geT_ w.heap.size hg; have GE179 := geT_ w.heap.size hg; replace HB := hB_ hb; clear hb hbox hg; obtain ⟨hcz4_0, hcz4_1, hcz4_2, hcz4_3, hfz4_0, hfz4_1, hfz4_2, hfz4_3⟩ := b4_ BK179.out))
  go_ret
  exact ⟨r3_, beT_⟩

end Go.Proofs.Ytgkjdpdmmlalcaa.F
end
section
namespace Go.Proofs.Ytgkjdpdmmlalcaa.F
open Go.RowKit Go.Proofs.YtgkjdpdmmlalcaaW.PrintWords Go.Proofs.YtgkjdpdmmlalcaaW.PrintLast Go.Proofs.YtgkjdpdmmlalcaaW.PrintMore
attribute [local go_sem] max2_int min2_int max_two min_two max_three min_three max_four min_four
set_option linter.unusedVariables false
set_option linter.unusedSimpArgs false

def ferryref04_wrong.f (a0 : Int) (a1 : Int) (a2 : Int) : Option (Bool) := if a1 = 0 then (some true) else (if a0 ≥ 1048576 then (some true) else (if a1 > ((1048576 - a0) % 4294967296) then (some true) else (if a2 < 0 then (some true) else (some (decide (a2 > 7))))))
set_option maxHeartbeats 8000000 in
set_option maxRecDepth 100000 in
theorem ferryref04_wrong.calls (a0 : Int) (a1 : Int) (a2 : Int) (r : Bool) (w : World) (h : ferryref04_wrong.f a0 a1 a2 = some r) :
    Calls Try.prog 69 #[.int .u32 a0, .int .u32 a1, .int .i64 a2] w fun e w' => e = .returned (.bool r) ∧ Drawn0 w w' := by
  have H : (if a1 = 0 then (some true) else (if a0 ≥ 1048576 then (some true) else (if a1 > ((1048576 - a0) % 4294967296) then (some true) else (if a2 < 0 then (some true) else (some (decide (a2 > 7))))))) = some r := h
  clear h
  by_cases c4 : a1 = 0
  · rw [if_pos c4] at H
    have c4b0 : (a1 == 0) = true := beq_iff_eq.mpr c4
    have c4b1 : (a1 != 0) = false := bne_eq_false_iff_eq.mpr c4
    clear c4
    obtain rfl := Option.some.inj H
    go_enter Try.func69, Try.ntmps69
    go_wp2
    go_ret
    exact ⟨by first | rfl | (simp; done) | (simp [*]; done), by repeat (first | exact Drawn0.refl _ | apply Drawn0.step)⟩
  rw [if_neg c4] at H
  have c4b0 : (a1 == 0) = false := beq_eq_false_iff_ne.mpr c4
  have c4b1 : (a1 != 0) = true := bne_iff_ne.mpr c4
  by_cases c5 : a0 ≥ 1048576
  · rw [if_pos c5] at H
    have c5b0 : decide (1048576 ≤ a0) = true := decide_eq_true c5
    clear c5
    obtain rfl := Option.some.inj H
    go_enter Try.func69, Try.ntmps69
    go_wp2
    go_ret
    exact ⟨by first | rfl | (simp; done) | (simp [*]; done), by repeat (first | exact Drawn0.refl _ | apply Drawn0.step)⟩
  rw [if_neg c5] at H
  have c5b0 : decide (1048576 ≤ a0) = false := decide_eq_false c5
  clear c5
  by_cases c6 : a1 > ((1048576 - a0) % 4294967296)
  · rw [if_pos c6] at H
    have c6b0 : decide (((1048576 - a0) % 4294967296) < a1) = true := decide_eq_true c6
    (try (have c6bs0 := c6b0; simp only [Int.add_emod_emod, Int.emod_add_emod, Int.sub_emod_emod, Int.emod_sub_emod] at c6bs0))
    clear c6
    obtain rfl := Option.some.inj H
    go_enter Try.func69, Try.ntmps69
    go_wp2
    go_ret
    exact ⟨by first | rfl | (simp; done) | (simp [*]; done), by repeat (first | exact Drawn0.refl _ | apply Drawn0.step)⟩
  rw [if_neg c6] at H
  have c6b0 : decide (((1048576 - a0) % 4294967296) < a1) = false := decide_eq_false c6
  (try (have c6bs0 := c6b0; simp only [Int.add_emod_emod, Int.emod_add_emod, Int.sub_emod_emod, Int.emod_sub_emod] at c6bs0))
  clear c6
  by_cases c7 : a2 < 0
  · rw [if_pos c7] at H
    have c7b0 : decide (a2 < 0) = true := decide_eq_true c7
    clear c7
    obtain rfl := Option.some.inj H
    go_enter Try.func69, Try.ntmps69
    go_wp2
    go_ret
    exact ⟨by first | rfl | (simp; done) | (simp [*]; done), by repeat (first | exact Drawn0.refl _ | apply Drawn0.step)⟩
  rw [if_neg c7] at H
  have c7b0 : decide (a2 < 0) = false := decide_eq_false c7
  clear c7
  obtain rfl := Option.some.inj H
  go_enter Try.func69, Try.ntmps69
  go_wp2
  go_ret
  exact ⟨by first | rfl | (simp; done) | (simp [*]; done), by repeat (first | exact Drawn0.refl _ | apply Drawn0.step)⟩

end Go.Proofs.Ytgkjdpdmmlalcaa.F
end
section
namespace Go.Proofs.Ytgkjdpdmmlalcaa.F
open Go.RowKit Go.Proofs.YtgkjdpdmmlalcaaW.PrintWords Go.Proofs.YtgkjdpdmmlalcaaW.PrintLast Go.Proofs.YtgkjdpdmmlalcaaW.PrintMore
attribute [local go_sem] max2_int min2_int max_two min_two max_three min_three max_four min_four
attribute [local go_sem] cell_twice
set_option linter.unusedVariables false
set_option linter.unusedSimpArgs false

def ferryref04_without.l0 : Nat → Int → Int → List (S41) → Int → List (S83) → List (S88) → Int → List (S41) → Option ((List (S41)))
  | 0, _, _, _, _, _, _, _, _ => none
  | k + 1, x1, x2, x7, x8, x224000, x224001, x224002, x224003 => if x8 < (x224003.length : Int) then (if 0 ≤ x8 then (if ((rd_T41 x224003 x8).f0) < x1 then (if x7.length < 8796093022208 then (ferryref04_without.l0 k x1 x2 (x7 ++ [(⟨(rd_T41 x224003 x8).f0, (rd_T41 x224003 x8).f1⟩ : S41)]) (wrap64 (x8 + 1)) x224000 x224001 x224002 x224003) else (none)) else (if ((((rd_T41 x224003 x8).f0) - x1) % 4294967296) ≥ x2 then (if x7.length < 8796093022208 then (ferryref04_without.l0 k x1 x2 (x7 ++ [(⟨(rd_T41 x224003 x8).f0, (rd_T41 x224003 x8).f1⟩ : S41)]) (wrap64 (x8 + 1)) x224000 x224001 x224002 x224003) else (none)) else (ferryref04_without.l0 k x1 x2 x7 (wrap64 (x8 + 1)) x224000 x224001 x224002 x224003))) else (none)) else (some x7)
def ferryref04_without.f (k : Nat) (l0_0 : List (S83)) (l0_1 : List (S88)) (a0_2 : Int) (l0_3 : List (S41)) (a1 : Int) (a2 : Int) : Option ((List (S41))) := ferryref04_without.l0 k a1 a2 ([] : List (S41)) 0 l0_0 l0_1 a0_2 l0_3
theorem ferryref04_without.mono_l : ∀ k, (∀ y0 y1 y2 y3 y4 y5 y6 y7, LeO (ferryref04_without.l0 k y0 y1 y2 y3 y4 y5 y6 y7) (ferryref04_without.l0 (k + 1) y0 y1 y2 y3 y4 y5 y6 y7))
  | 0 => fun _ _ _ _ _ _ _ _ r h => by simp [ferryref04_without.l0] at h
  | k + 1 => by
    have ih0 := ferryref04_without.mono_l k
    · intro y0 y1 y2 y3 y4 y5 y6 y7
      unfold ferryref04_without.l0
      exact moT_
theorem ferryref04_without.mono : ∀ a0 a1 a2 a3 a4 a5 k, LeO (ferryref04_without.f k a0 a1 a2 a3 a4 a5) (ferryref04_without.f (k + 1) a0 a1 a2 a3 a4 a5) := by
  intro a0 a1 a2 a3 a4 a5 k
  have ih0 := ferryref04_without.mono_l k
  unfold ferryref04_without.f
  exact moT_
set_option maxHeartbeats 8000000 in
set_option maxRecDepth 100000 in
theorem ferryref04_without.calls (k : Nat) (A0_0 : Option Addr) (c0_0 : Nat) (l0_0 : List (S83)) (A0_1 : Option Addr) (c0_1 : Nat) (l0_1 : List (S88)) (a0_2 : Int) (A0_3 : Option Addr) (c0_3 : Nat) (l0_3 : List (S41)) (a1 : Int) (a2 : Int) (r : List (S41)) (w : World) (hr0_0 : Kd.C k83 w A0_0 l0_0.length l0_0) (hc0_0 : l0_0.length ≤ c0_0) (hr0_1 : Kd.C k88 w A0_1 l0_1.length l0_1) (hc0_1 : l0_1.length ≤ c0_1) (hr0_3 : Kd.C k41 w A0_3 l0_3.length l0_3) (hc0_3 : l0_3.length ≤ c0_3) (h : ferryref04_without.f k l0_0 l0_1 a0_2 l0_3 a1 a2 = some r) :
    Calls Try.prog 70 #[.agg #[.slice A0_0 l0_0.length c0_0, .slice A0_1 l0_1.length c0_1, .int .u64 a0_2, .slice A0_3 l0_3.length c0_3], .int .u32 a1, .int .u32 a2] w fun e w' => ∃ v0_ : Value, e = .returned (v0_) ∧ Kd.R k41 41 w' w.heap.size (fun _ => True) v0_ r ∧ Below w.heap.size w w' := by
  have hu29 := Try.underlying29
  have hu41 := Try.underlying41
  have HR0_0 := Aside0.mk hr0_0
  have HC0_0 := Aside0.mk hc0_0
  clear hr0_0 hc0_0
  have HR0_1 := Aside0.mk hr0_1
  have HC0_1 := Aside0.mk hc0_1
  clear hr0_1 hc0_1
  have HR0_3 := Aside0.mk hr0_3
  have HC0_3 := Aside0.mk hc0_3
  clear hr0_3 hc0_3
  have HB := Aside0.mk (Below.refl w.heap.size w)
  have H : (ferryref04_without.l0 k a1 a2 ([] : List (S41)) 0 l0_0 l0_1 a0_2 l0_3) = some r := h
  clear h
  have H' := Aside0.mk H
  clear H
  go_enter Try.func70, Try.ntmps70
  go_wp2_with (first | ((with_reducible refine gate_dst (N := 3) rfl ?_); refine bE_ 3 #[.slice A0_0 l0_0.length c0_0, .slice A0_1 l0_1.length c0_1, .int .u64 a0_2, .slice A0_3 l0_3.length c0_3] 29 ?_; intro gb223 hg w4 hbox hb; have BK223 := Aside0.mk hbox; have GW223 := geT_ w.heap.size hg; have GE223 := geT_ w.heap.size hg; replace HB := hB_ hb; clear hb hbox hg))
  go_loopg [7, 8] k (fun kq v7 v8 w' => ∃ (x7_1 : List (S41)) (x8_1 : Int), v8 = .int .i64 x8_1 ∧ Aside0 (ferryref04_without.l0 kq a1 a2 x7_1 x8_1 l0_0 l0_1 a0_2 l0_3 = some r) ∧ Aside0 (kq ≤ k) ∧ Aside0 (Kd.R k41 41 w' w.heap.size (fun _ => True) v7 x7_1) ∧ Aside0 (w'.heap[gb223]? = some (.cells #[(.slice A0_0 l0_0.length c0_0), (.slice A0_1 l0_1.length c0_1), .int .u64 a0_2, (.slice A0_3 l0_3.length c0_3)] 29 (0, 0))) ∧ Aside0 (Below w.heap.size w w'))
  case atStart => exact ⟨(([] : List (S41))), (0), r1_, H', ⟨Nat.le_refl _⟩, ⟨by first | exact Kd.R_nil _ _ _ _ _ | exact Kd.N_nil _ _ _ _ _ | exact Kd.V_nil _ _ _ _ _ | exact Kd.Q_nil _ _ _ _ _ | exact Kd.S_nil _ _ _ _ _⟩, ⟨bT_ BK223.out⟩, ⟨beT_⟩⟩
  case round =>
    clear H'
    try clear p2
    obtain ⟨x7_1, x8_1, rfl, HA, HK1, HO_7, BK223, HB⟩ := hrel
    cases gk with
    | zero => exact absurd HA.out (by simp [ferryref04_without.l0])
    | succ k1 =>
      have H := HA.out
      clear HA
      simp only [ferryref04_without.l0] at H
      by_cases c5 : x8_1 < (l0_3.length : Int)
      · rw [if_pos c5] at H
        have c5b0 : decide (x8_1 < (l0_3.length : Int)) = true := decide_eq_true c5
        clear c5
        by_cases c6 : 0 ≤ x8_1
        · rw [if_pos c6] at H
          have c6b0 : decide (0 ≤ x8_1) = true := decide_eq_true c6
          clear c6
          by_cases c7 : ((rd_T41 l0_3 x8_1).f0) < a1
          · rw [if_pos c7] at H
            have c7b0 : decide (((rd_T41 l0_3 x8_1).f0) < a1) = true := decide_eq_true c7
            clear c7
            by_cases c8 : x7_1.length < 8796093022208
            · rw [if_pos c8] at H
              have LMc8 := Aside0.mk c8
              clear c8
              obtain ⟨y226, hy226⟩ : ∃ y_ : List (S41), y_ = (x7_1 ++ [(⟨(rd_T41 l0_3 x8_1).f0, (rd_T41 l0_3 x8_1).f1⟩ : S41)]) := ⟨_, rfl⟩
              replace H : (ferryref04_without.l0 k1 a1 a2 y226 (wrap64 (x8_1 + 1)) l0_0 l0_1 a0_2 l0_3) = some r := by first | (rw [hy226]; with_reducible exact H) | (have H2_ := (Option.bind_some _ _).symm.trans H; rw [hy226]; with_reducible exact H2_) | (have H2_ := (Option.bind_some _ _).symm.trans H; with_reducible exact H2_) | with_reducible exact H | (rw [hy226]; exact H) | exact H
              have Ny226 := Aside0.mk hy226
              clear hy226
              have H' := Aside0.mk H
              clear H
              obtain ⟨hcz9_0, hcz9_1, hcz9_2, hcz9_3, hfz9_0, hfz9_1, hfz9_2, hfz9_3⟩ := b4_ BK223.out
              have p224 : 0 ≤ (x8_1 : Int) := dT_
              have q224 : x8_1 < (l0_3.length : Int) := dT_
              obtain ⟨ad224, e224, hx224_0, hx224_1⟩ := at_T41 HR0_3.out x8_1 p224 q224
              cases e224
              replace hx224_0 := hX_ hx224_0
              replace hx224_1 := hX_ hx224_1
              replace p224 := eq_true p224
              replace q224 := eq_true q224
              go_wp2_with (first | ((with_reducible refine gate_dst (N := 9) rfl ?_); refine bE_ 9 #[.int .u32 0, .int .i64 0] 41 ?_; intro gb225 hg w10 hbox hb; have BK225 := Aside0.mk hbox; have GW225 := geT_ w.heap.size hg; have GE225 := geT_ w.heap.size hg; have NB223_225 := nlT_ BK223.out hg; have NB225_223 := ngT_ BK223.out hg; replace HO_7 := rE_ HO_7.out hg hb; replace BK223 := kB_ BK223 hb; replace HB := hB_ hb; clear hb hbox hg; have hnb11 := NB225_223.out; have hnc11 := NB223_225.out; obtain ⟨hcz12_0, hcz12_1, hfz12_0, hfz12_1⟩ := b2_ BK225.out) | ((with_reducible refine gate_builtin (b := .append) (xs := #[.tmp 34, .tmp 36]) rfl ?_); at_builtin; refine Kd.R_append k41 (w0 := w) w.heap.size rfl (.tmp 34) (.tmp 36) 27 41 (.agg #[(.int .u32 0), (.int .i64 0)]) 16 rfl Try.underlying27 info41 rfl (by decide) (by omega) u7 x7_1 (⟨(rd_T41 l0_3 x8_1).f0, (rd_T41 l0_3 x8_1).f1⟩ : S41) [.int .u32 ((rd_T41 l0_3 x8_1).f0), .int .i64 ((rd_T41 l0_3 x8_1).f1)] (fun k_ => k_ ≠ gb225) (fun _ => False) rfl (by first | (go_simp; done) | (go_simp; rfl)) ?aP (fun _ hk => hk.elim) ?aF ?aO ?aB ?aS ?aL ?_; (case aP => exact k41_mkM _ _ _ (⟨(rd_T41 l0_3 x8_1).f0, (rd_T41 l0_3 x8_1).f1⟩ : S41)); (case aB => exact beT_); (case aF => exact (fun k_ hk => Kd.freshB (g := gb225) (o := .cells #[.int .u32 ((rd_T41 l0_3 x8_1).f0), .int .i64 ((rd_T41 l0_3 x8_1).f1)] 41 (0, 0)) (kP_ BK225.out) k_ hk)); (case aO => exact (rF_ HO_7.out)); (case aS => exact (below_size beT_)); (case aL => have := LMc8.out; omega); intro v227 w13 ho hb hg hat; rw [← Ny226.out] at ho; have HO228 := Aside0.mk ho; replace BK223 := kG_ BK223.out hg (Kd.R_ne HO_7.out BK223.out (by decide)); replace BK225 := Aside0.mk (blk_grown (g := gb225) (o := .cells #[.int .u32 ((rd_T41 l0_3 x8_1).f0), .int .i64 ((rd_T41 l0_3 x8_1).f1)] 41 (0, 0)) (kP_ BK225.out) hg (Kd.R_away HO_7.out (fun _ hk => by first | exact hk.2 | grind))); replace HB := Aside0.mk hb; clear HO_7; clear ho hb hg hat))
              go_roundg k1
              case measure => have := HK1.out; omega
              case rel => exact ⟨(y226), (wrap64 (x8_1 + 1)), r1_, H', ⟨by have := HK1.out; omega⟩, ⟨rM_ HO228.out⟩, ⟨bT_ BK223.out⟩, ⟨beT_⟩⟩
            rw [if_neg c8] at H
            exact absurd H (by simp)
          rw [if_neg c7] at H
          have c7b0 : decide (((rd_T41 l0_3 x8_1).f0) < a1) = false := decide_eq_false c7
          clear c7
          by_cases c14 : ((((rd_T41 l0_3 x8_1).f0) - a1) % 4294967296) ≥ a2
          · rw [if_pos c14] at H
            have c14b0 : decide (a2 ≤ ((((rd_T41 l0_3 x8_1).f0) - a1) % 4294967296)) = true := decide_eq_true c14
            (try (have c14bs0 := c14b0; simp only [Int.add_emod_emod, Int.emod_add_emod, Int.sub_emod_emod, Int.emod_sub_emod] at c14bs0))
            clear c14
            by_cases c15 : x7_1.length < 8796093022208
            · rw [if_pos c15] at H
              have LMc15 := Aside0.mk c15
              clear c15
              obtain ⟨y229, hy229⟩ : ∃ y_ : List (S41), y_ = (x7_1 ++ [(⟨(rd_T41 l0_3 x8_1).f0, (rd_T41 l0_3 x8_1).f1⟩ : S41)]) := ⟨_, rfl⟩
              replace H : (ferryref04_without.l0 k1 a1 a2 y229 (wrap64 (x8_1 + 1)) l0_0 l0_1 a0_2 l0_3) = some r := by first | (rw [hy229]; with_reducible exact H) | (have H2_ := (Option.bind_some _ _).symm.trans H; rw [hy229]; with_reducible exact H2_) | (have H2_ := (Option.bind_some _ _).symm.trans H; with_reducible exact H2_) | with_reducible exact H | (rw [hy229]; exact H) | exact H
              have Ny229 := Aside0.mk hy229
              clear hy229
              have H' := Aside0.mk H
              clear H
              obtain ⟨hcz16_0, hcz16_1, hcz16_2, hcz16_3, hfz16_0, hfz16_1, hfz16_2, hfz16_3⟩ := b4_ BK223.out
              have p224 : 0 ≤ (x8_1 : Int) := dT_
              have q224 : x8_1 < (l0_3.length : Int) := dT_
              obtain ⟨ad224, e224, hx224_0, hx224_1⟩ := at_T41 HR0_3.out x8_1 p224 q224
              cases e224
              replace hx224_0 := hX_ hx224_0
              replace hx224_1 := hX_ hx224_1
              replace p224 := eq_true p224
              replace q224 := eq_true q224
              go_wp2_with (first | ((with_reducible refine gate_dst (N := 9) rfl ?_); refine bE_ 9 #[.int .u32 0, .int .i64 0] 41 ?_; intro gb225 hg w17 hbox hb; have BK225 := Aside0.mk hbox; have GW225 := geT_ w.heap.size hg; have GE225 := geT_ w.heap.size hg; have NB223_225 := nlT_ BK223.out hg; have NB225_223 := ngT_ BK223.out hg; replace HO_7 := rE_ HO_7.out hg hb; replace BK223 := kB_ BK223 hb; replace HB := hB_ hb; clear hb hbox hg; have hnb18 := NB225_223.out; have hnc18 := NB223_225.out; obtain ⟨hcz19_0, hcz19_1, hfz19_0, hfz19_1⟩ := b2_ BK225.out) | ((with_reducible refine gate_builtin (b := .append) (xs := #[.tmp 34, .tmp 36]) rfl ?_); at_builtin; refine Kd.R_append k41 (w0 := w) w.heap.size rfl (.tmp 34) (.tmp 36) 27 41 (.agg #[(.int .u32 0), (.int .i64 0)]) 16 rfl Try.underlying27 info41 rfl (by decide) (by omega) u7 x7_1 (⟨(rd_T41 l0_3 x8_1).f0, (rd_T41 l0_3 x8_1).f1⟩ : S41) [.int .u32 ((rd_T41 l0_3 x8_1).f0), .int .i64 ((rd_T41 l0_3 x8_1).f1)] (fun k_ => k_ ≠ gb225) (fun _ => False) rfl (by first | (go_simp; done) | (go_simp; rfl)) ?aP (fun _ hk => hk.elim) ?aF ?aO ?aB ?aS ?aL ?_; (case aP => exact k41_mkM _ _ _ (⟨(rd_T41 l0_3 x8_1).f0, (rd_T41 l0_3 x8_1).f1⟩ : S41)); (case aB => exact beT_); (case aF => exact (fun k_ hk => Kd.freshB (g := gb225) (o := .cells #[.int .u32 ((rd_T41 l0_3 x8_1).f0), .int .i64 ((rd_T41 l0_3 x8_1).f1)] 41 (0, 0)) (kP_ BK225.out) k_ hk)); (case aO => exact (rF_ HO_7.out)); (case aS => exact (below_size beT_)); (case aL => have := LMc15.out; omega); intro v230 w20 ho hb hg hat; rw [← Ny229.out] at ho; have HO231 := Aside0.mk ho; replace BK223 := kG_ BK223.out hg (Kd.R_ne HO_7.out BK223.out (by decide)); replace BK225 := Aside0.mk (blk_grown (g := gb225) (o := .cells #[.int .u32 ((rd_T41 l0_3 x8_1).f0), .int .i64 ((rd_T41 l0_3 x8_1).f1)] 41 (0, 0)) (kP_ BK225.out) hg (Kd.R_away HO_7.out (fun _ hk => by first | exact hk.2 | grind))); replace HB := Aside0.mk hb; clear HO_7; clear ho hb hg hat))
              go_roundg k1
              case measure => have := HK1.out; omega
              case rel => exact ⟨(y229), (wrap64 (x8_1 + 1)), r1_, H', ⟨by have := HK1.out; omega⟩, ⟨rM_ HO231.out⟩, ⟨bT_ BK223.out⟩, ⟨beT_⟩⟩
            rw [if_neg c15] at H
            exact absurd H (by simp)
          rw [if_neg c14] at H
          have c14b0 : decide (a2 ≤ ((((rd_T41 l0_3 x8_1).f0) - a1) % 4294967296)) = false := decide_eq_false c14
          (try (have c14bs0 := c14b0; simp only [Int.add_emod_emod, Int.emod_add_emod, Int.sub_emod_emod, Int.emod_sub_emod] at c14bs0))
          clear c14
          have H' := Aside0.mk H
          clear H
          obtain ⟨hcz21_0, hcz21_1, hcz21_2, hcz21_3, hfz21_0, hfz21_1, hfz21_2, hfz21_3⟩ := b4_ BK223.out
          have p224 : 0 ≤ (x8_1 : Int) := dT_
          have q224 : x8_1 < (l0_3.length : Int) := dT_
          obtain ⟨ad224, e224, hx224_0, hx224_1⟩ := at_T41 HR0_3.out x8_1 p224 q224
          cases e224
          replace hx224_0 := hX_ hx224_0
          replace hx224_1 := hX_ hx224_1
          replace p224 := eq_true p224
          replace q224 := eq_true q224
          go_wp2_with (first | ((with_reducible refine gate_dst (N := 9) rfl ?_); refine bE_ 9 #[.int .u32 0, .int .i64 0] 41 ?_; intro gb225 hg w22 hbox hb; have BK225 := Aside0.mk hbox; have GW225 := geT_ w.heap.size hg; have GE225 := geT_ w.heap.size hg; have NB223_225 := nlT_ BK223.out hg; have NB225_223 := ngT_ BK223.out hg; replace HO_7 := rE_ HO_7.out hg hb; replace BK223 := kB_ BK223 hb; replace HB := hB_ hb; clear hb hbox hg; have hnb23 := NB225_223.out; have hnc23 := NB223_225.out; obtain ⟨hcz24_0, hcz24_1, hfz24_0, hfz24_1⟩ := b2_ BK225.out))
          go_roundg k1
          case measure => have := HK1.out; omega
          case rel => exact ⟨(x7_1), (wrap64 (x8_1 + 1)), r1_, H', ⟨by have := HK1.out; omega⟩, ⟨rF_ HO_7.out⟩, ⟨bfT_ BK223.out⟩, ⟨beT_⟩⟩
        rw [if_neg c6] at H
        exact absurd H (by simp)
      rw [if_neg c5] at H
      have c5b0 : decide (x8_1 < (l0_3.length : Int)) = false := decide_eq_false c5
      clear c5
      obtain rfl := Option.some.inj H
      obtain ⟨hcz25_0, hcz25_1, hcz25_2, hcz25_3, hfz25_0, hfz25_1, hfz25_2, hfz25_3⟩ := b4_ BK223.out
      go_wp2
      go_ret
      exact ⟨_, r3_, (rT_ HO_7.out), beT_⟩

end Go.Proofs.Ytgkjdpdmmlalcaa.F
end
section
namespace Go.Proofs.Ytgkjdpdmmlalcaa.F
open Go.RowKit Go.Proofs.YtgkjdpdmmlalcaaW.PrintWords Go.Proofs.YtgkjdpdmmlalcaaW.PrintLast Go.Proofs.YtgkjdpdmmlalcaaW.PrintMore
attribute [local go_sem] max2_int min2_int max_two min_two max_three min_three max_four min_four
set_option linter.unusedVariables false
set_option linter.unusedSimpArgs false

def ferryref04_hostPage.f (l0_0 : List (S83)) (l0_1 : List (S88)) (a0_2 : Int) (l0_3 : List (S41)) (a1 : Int) : Option (Int) := some (IntKind.u64.wrap ((IntKind.u64.wrap (Int.tdiv a0_2 16384)) + (IntKind.u64.wrap (Int.tdiv (IntKind.u64.wrap (a1)) 4))))
set_option maxHeartbeats 8000000 in
set_option maxRecDepth 100000 in
theorem ferryref04_hostPage.calls (A0_0 : Option Addr) (c0_0 : Nat) (l0_0 : List (S83)) (A0_1 : Option Addr) (c0_1 : Nat) (l0_1 : List (S88)) (a0_2 : Int) (A0_3 : Option Addr) (c0_3 : Nat) (l0_3 : List (S41)) (a1 : Int) (r : Int) (w : World) (hr0_0 : Kd.C k83 w A0_0 l0_0.length l0_0) (hc0_0 : l0_0.length ≤ c0_0) (hr0_1 : Kd.C k88 w A0_1 l0_1.length l0_1) (hc0_1 : l0_1.length ≤ c0_1) (hr0_3 : Kd.C k41 w A0_3 l0_3.length l0_3) (hc0_3 : l0_3.length ≤ c0_3) (h : ferryref04_hostPage.f l0_0 l0_1 a0_2 l0_3 a1 = some r) :
    Calls Try.prog 71 #[.agg #[.slice A0_0 l0_0.length c0_0, .slice A0_1 l0_1.length c0_1, .int .u64 a0_2, .slice A0_3 l0_3.length c0_3], .int .u32 a1] w fun e w' => e = .returned (.int .u64 r) ∧ Below w.heap.size w w' := by
  have hu29 := Try.underlying29
  have HR0_0 := Aside0.mk hr0_0
  have HC0_0 := Aside0.mk hc0_0
  clear hr0_0 hc0_0
  have HR0_1 := Aside0.mk hr0_1
  have HC0_1 := Aside0.mk hc0_1
  clear hr0_1 hc0_1
  have HR0_3 := Aside0.mk hr0_3
  have HC0_3 := Aside0.mk hc0_3
  clear hr0_3 hc0_3
  have HB := Aside0.mk (Below.refl w.heap.size w)
  have H : (some (IntKind.u64.wrap ((IntKind.u64.wrap (Int.tdiv a0_2 16384)) + (IntKind.u64.wrap (Int.tdiv (IntKind.u64.wrap (a1)) 4))))) = some r := h
  clear h
  obtain rfl := Option.some.inj H
  go_enter Try.func71, Try.ntmps71
  go_wp2_with (first | ((with_reducible refine gate_dst (N := 2) rfl ?_); refine bE_ 2 #[.slice A0_0 l0_0.length c0_0, .slice A0_1 l0_1.length c0_1, .int .u64 a0_2, .slice A0_3 l0_3.length c0_3] 29 ?_; intro gb189 hg w3 hbox hb; have BK189 := Aside0.mk hbox; have GW189 := geT_ w.heap.size hg; have GE189 := geT_ w.heap.size hg; replace HB := hB_ hb; clear hb hbox hg; obtain ⟨hcz4_0, hcz4_1, hcz4_2, hcz4_3, hfz4_0, hfz4_1, hfz4_2, hfz4_3⟩ := b4_ BK189.out))
  go_ret
  exact ⟨r3_, beT_⟩

end Go.Proofs.Ytgkjdpdmmlalcaa.F
end
