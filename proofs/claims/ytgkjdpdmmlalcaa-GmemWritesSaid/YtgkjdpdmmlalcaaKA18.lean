import Derived.Test.YtgkjdpdmmlalcaaKZF0
import Derived.Test.YtgkjdpdmmlalcaaKA0
import Derived.Test.YtgkjdpdmmlalcaaKA2HHost0
import Derived.Test.YtgkjdpdmmlalcaaKA3
import Derived.Test.YtgkjdpdmmlalcaaKA4HHost11
import Derived.Test.YtgkjdpdmmlalcaaKA5
import Derived.Test.YtgkjdpdmmlalcaaKA7
import Derived.Test.YtgkjdpdmmlalcaaKA8HHost6
import Derived.Test.YtgkjdpdmmlalcaaKA10PHost6
import Derived.Test.YtgkjdpdmmlalcaaKA16
import Derived.Test.YtgkjdpdmmlalcaaKA17FFerryref04Fit
section
namespace Go.Proofs.Ytgkjdpdmmlalcaa.F
open Go.RowKit Go.Proofs.YtgkjdpdmmlalcaaW.PrintWords Go.Proofs.YtgkjdpdmmlalcaaW.PrintLast Go.Proofs.YtgkjdpdmmlalcaaW.PrintMore
attribute [local go_sem] max2_int min2_int max_two min_two max_three min_three max_four min_four
set_option linter.unusedVariables false
set_option linter.unusedSimpArgs false

theorem eqA41 (d : Nat) (w : World) (x0 y0 : Int) (x1 y1 : Int) :
    (Op.equalIn (d + 2) 41 (.agg #[.int .u32 x0, .int .i64 x1]) (.agg #[.int .u32 y0, .int .i64 y1])).run Try.prog w = .ok (x0 == y0 && (x1 == y1)) w := by
  refine eqA_of Try.underlying41 (by kernel_rfl) ?_
  refine eqf_cons (by rfl) (by go_simp; rfl) (by go_simp; rfl) (by go_simp) ?_
  exact eqf_last (by rfl) (by go_simp; rfl) (by go_simp; rfl) (by go_simp)
end Go.Proofs.Ytgkjdpdmmlalcaa.F
end
section
namespace Go.Proofs.Ytgkjdpdmmlalcaa.F
open Go.RowKit Go.Proofs.YtgkjdpdmmlalcaaW.PrintWords Go.Proofs.YtgkjdpdmmlalcaaW.PrintLast Go.Proofs.YtgkjdpdmmlalcaaW.PrintMore
attribute [local go_sem] max2_int min2_int max_two min_two max_three min_three max_four min_four
set_option linter.unusedVariables false
set_option linter.unusedSimpArgs false

attribute [local go_sem high] eqA41
mutual
def ferryref04_Same.j0 : Nat → Bool → List (S83) → List (S88) → Int → List (S41) → List (S83) → List (S88) → Int → List (S41) → Option (Bool)
  | 0, _, _, _, _, _, _, _, _, _ => none
  | k + 1, x27, x273000, x273001, x273002, x273003, x274000, x274001, x274002, x274003 => if x27 = true then (some false) else (ferryref04_Same.l0 k 0 x273000 x273001 x273002 x273003 x274000 x274001 x274002 x274003)
def ferryref04_Same.l0 : Nat → Int → List (S83) → List (S88) → Int → List (S41) → List (S83) → List (S88) → Int → List (S41) → Option (Bool)
  | 0, _, _, _, _, _, _, _, _, _ => none
  | k + 1, x5, x273000, x273001, x273002, x273003, x274000, x274001, x274002, x274003 => if x5 < (x273003.length : Int) then (if 0 ≤ x5 then (if x5 < (x274003.length : Int) then (if (!(((rd_T41 x273003 x5).f0) == ((rd_T41 x274003 x5).f0)) || (!(((rd_T41 x273003 x5).f1) == ((rd_T41 x274003 x5).f1)))) = true then (some false) else (ferryref04_Same.l0 k (wrap64 (x5 + 1)) x273000 x273001 x273002 x273003 x274000 x274001 x274002 x274003)) else (none)) else (none)) else (some true)
end
def ferryref04_Same.f (k : Nat) (l0_0 : List (S83)) (l0_1 : List (S88)) (a0_2 : Int) (l0_3 : List (S41)) (l1_0 : List (S83)) (l1_1 : List (S88)) (a1_2 : Int) (l1_3 : List (S41)) : Option (Bool) := (ferryref03_Same.f k l0_0 l0_1 l1_0 l1_1).bind fun t274 => (if t274 = true then (if a0_2 = a1_2 then (ferryref04_Same.j0 k ((l0_3.length : Int) != (l1_3.length : Int)) l0_0 l0_1 a0_2 l0_3 l1_0 l1_1 a1_2 l1_3) else (ferryref04_Same.j0 k true l0_0 l0_1 a0_2 l0_3 l1_0 l1_1 a1_2 l1_3)) else (ferryref04_Same.j0 k true l0_0 l0_1 a0_2 l0_3 l1_0 l1_1 a1_2 l1_3))
set_option maxHeartbeats 8000000 in
set_option maxRecDepth 100000 in
theorem ferryref04_Same.calls (k : Nat) (A0_0 : Option Addr) (c0_0 : Nat) (l0_0 : List (S83)) (A0_1 : Option Addr) (c0_1 : Nat) (l0_1 : List (S88)) (a0_2 : Int) (A0_3 : Option Addr) (c0_3 : Nat) (l0_3 : List (S41)) (A1_0 : Option Addr) (c1_0 : Nat) (l1_0 : List (S83)) (A1_1 : Option Addr) (c1_1 : Nat) (l1_1 : List (S88)) (a1_2 : Int) (A1_3 : Option Addr) (c1_3 : Nat) (l1_3 : List (S41)) (r : Bool) (w : World) (hr0_0 : Kd.C k83 w A0_0 l0_0.length l0_0) (hc0_0 : l0_0.length ≤ c0_0) (hr0_1 : Kd.C k88 w A0_1 l0_1.length l0_1) (hc0_1 : l0_1.length ≤ c0_1) (hr0_3 : Kd.C k41 w A0_3 l0_3.length l0_3) (hc0_3 : l0_3.length ≤ c0_3) (hr1_0 : Kd.C k83 w A1_0 l1_0.length l1_0) (hc1_0 : l1_0.length ≤ c1_0) (hr1_1 : Kd.C k88 w A1_1 l1_1.length l1_1) (hc1_1 : l1_1.length ≤ c1_1) (hr1_3 : Kd.C k41 w A1_3 l1_3.length l1_3) (hc1_3 : l1_3.length ≤ c1_3) (h : ferryref04_Same.f k l0_0 l0_1 a0_2 l0_3 l1_0 l1_1 a1_2 l1_3 = some r) :
    Calls Try.prog 12 #[.agg #[.slice A0_0 l0_0.length c0_0, .slice A0_1 l0_1.length c0_1, .int .u64 a0_2, .slice A0_3 l0_3.length c0_3], .agg #[.slice A1_0 l1_0.length c1_0, .slice A1_1 l1_1.length c1_1, .int .u64 a1_2, .slice A1_3 l1_3.length c1_3]] w fun e w' => e = .returned (.bool r) ∧ Below w.heap.size w w' := by
  have hu29 := Try.underlying29
  have hu25 := Try.underlying25
  have hu41 := Try.underlying41
  have HR0_0 := Aside0.mk hr0_0
  have HC0_0 := Aside0.mk hc0_0
  clear hr0_0 hc0_0
  have HR0_1 := Aside0.mk hr0_1
  have HC0_1 := Aside0.mk hc0_1
  clear hr0_1 hc0_1
  have HR0_3 := Aside0.mk hr0_3
  have HC0_3 := Aside0.mk hc0_3
  clear hr0_3 hc0_3
  have HR1_0 := Aside0.mk hr1_0
  have HC1_0 := Aside0.mk hc1_0
  clear hr1_0 hc1_0
  have HR1_1 := Aside0.mk hr1_1
  have HC1_1 := Aside0.mk hc1_1
  clear hr1_1 hc1_1
  have HR1_3 := Aside0.mk hr1_3
  have HC1_3 := Aside0.mk hc1_3
  clear hr1_3 hc1_3
  have HB := Aside0.mk (Below.refl w.heap.size w)
  have H : ((ferryref03_Same.f k l0_0 l0_1 l1_0 l1_1).bind fun t274 => (if t274 = true then (if a0_2 = a1_2 then (ferryref04_Same.j0 k ((l0_3.length : Int) != (l1_3.length : Int)) l0_0 l0_1 a0_2 l0_3 l1_0 l1_1 a1_2 l1_3) else (ferryref04_Same.j0 k true l0_0 l0_1 a0_2 l0_3 l1_0 l1_1 a1_2 l1_3)) else (ferryref04_Same.j0 k true l0_0 l0_1 a0_2 l0_3 l1_0 l1_1 a1_2 l1_3))) = some r := h
  clear h
  have HC3 := Aside0.mk H
  clear H
  go_enter Try.func12, Try.ntmps12
  go_upto_region 1 with (first | ((with_reducible refine gate_dst (N := 2) rfl ?_); (try (refine gate_guard (by rfl) ?_; dsimp only)); refine bE_ 2 #[.slice A0_0 l0_0.length c0_0, .slice A0_1 l0_1.length c0_1, .int .u64 a0_2, .slice A0_3 l0_3.length c0_3] 29 ?_; intro gb272 hg w4 hbox hb; have BK272 := Aside0.mk hbox; have GW272 := geT_ w.heap.size hg; have GE272 := geT_ w.heap.size hg; replace HB := hB_ hb; clear hb hbox hg) | ((with_reducible refine gate_dst (N := 3) rfl ?_); (try (refine gate_guard (by rfl) ?_; dsimp only)); refine bE_ 3 #[.slice A1_0 l1_0.length c1_0, .slice A1_1 l1_1.length c1_1, .int .u64 a1_2, .slice A1_3 l1_3.length c1_3] 29 ?_; intro gb273 hg w5 hbox hb; have BK273 := Aside0.mk hbox; have GW273 := geT_ w.heap.size hg; have GE273 := geT_ w.heap.size hg; have NB272_273 := nlT_ BK272.out hg; have NB273_272 := ngT_ BK272.out hg; replace BK272 := kB_ BK272 hb; replace HB := hB_ hb; clear hb hbox hg))
  repeat (go_quiet (fail); go_upto_region 1 with (fail))
  go_cut [27] (fun v27 wc => ∃ (kq : Nat) (x27_2 : Bool), v27 = .bool x27_2 ∧ Aside0 (ferryref04_Same.j0 kq x27_2 l0_0 l0_1 a0_2 l0_3 l1_0 l1_1 a1_2 l1_3 = some r) ∧ Aside0 (kq ≤ k) ∧ Aside0 (wc.heap[gb272]? = some (.cells #[(.slice A0_0 l0_0.length c0_0), (.slice A0_1 l0_1.length c0_1), .int .u64 a0_2, (.slice A0_3 l0_3.length c0_3)] 29 (0, 0))) ∧ Aside0 (wc.heap[gb273]? = some (.cells #[(.slice A1_0 l1_0.length c1_0), (.slice A1_1 l1_1.length c1_1), .int .u64 a1_2, (.slice A1_3 l1_3.length c1_3)] 29 (0, 0))) ∧ Aside0 (Below w.heap.size w wc))
  case first =>
    have H := HC3.out
    clear HC3
    replace H := Option.bind_eq_some_iff.mp H
    obtain ⟨t274, A60, H⟩ := H
    have A6 := Aside0.mk A60
    clear A60
    by_cases c7 : t274 = true
    · subst c7
      replace H := hP_ H
      by_cases c8 : a0_2 = a1_2
      · rw [if_pos c8] at H
        have c8b0 : (a0_2 == a1_2) = true := beq_iff_eq.mpr c8
        have c8b1 : (a0_2 != a1_2) = false := bne_eq_false_iff_eq.mpr c8
        clear c8
        (skip)
        have H' := Aside0.mk H
        clear H
        have hnb9 := NB272_273.out
        have hnc9 := NB273_272.out
        obtain ⟨hcz10_0, hcz10_1, hcz10_2, hcz10_3, hfz10_0, hfz10_1, hfz10_2, hfz10_3⟩ := b4_ BK272.out
        obtain ⟨hcz11_0, hcz11_1, hcz11_2, hcz11_3, hfz11_0, hfz11_1, hfz11_2, hfz11_3⟩ := b4_ BK273.out
        go_wp2_with ((go_at_call 40; (with_reducible refine (ferryref03_Same.calls k _ _ l0_0 _ _ l0_1 _ _ l1_0 _ _ l1_1 true _ ?side1 ?side2 ?side3 ?side4 ?side5 ?side6 ?side7 ?side8 A6.out).mono ?_); (case side1 => exact cT_ (Kd.C_below HR0_0.out HB.out)); (case side2 => exact HC0_0.out); (case side3 => exact cT_ (Kd.C_below HR0_1.out HB.out)); (case side4 => exact HC0_1.out); (case side5 => exact cT_ (Kd.C_below HR1_0.out HB.out)); (case side6 => exact HC1_0.out); (case side7 => exact cT_ (Kd.C_below HR1_1.out HB.out)); (case side8 => exact HC1_1.out); rintro e w12 ⟨rfl, hb⟩; replace BK272 := kB_ BK272 hb; replace BK273 := kB_ BK273 hb; replace HB := hB_ hb; (try clear hb); obtain ⟨hcz13_0, hcz13_1, hcz13_2, hcz13_3, hfz13_0, hfz13_1, hfz13_2, hfz13_3⟩ := b4_ BK272.out; obtain ⟨hcz14_0, hcz14_1, hcz14_2, hcz14_3, hfz14_0, hfz14_1, hfz14_2, hfz14_3⟩ := b4_ BK273.out))
        repeat (go_quiet (fail))
        go_meet
        case rel => exact ⟨_, (((l0_3.length : Int) != (l1_3.length : Int))), r1_, H', ⟨r2_⟩, ⟨bT_ BK272.out⟩, ⟨bT_ BK273.out⟩, ⟨beT_⟩⟩
      rw [if_neg c8] at H
      have c8b0 : (a0_2 == a1_2) = false := beq_eq_false_iff_ne.mpr c8
      have c8b1 : (a0_2 != a1_2) = true := bne_iff_ne.mpr c8
      (skip)
      have H' := Aside0.mk H
      clear H
      have hnb15 := NB272_273.out
      have hnc15 := NB273_272.out
      obtain ⟨hcz16_0, hcz16_1, hcz16_2, hcz16_3, hfz16_0, hfz16_1, hfz16_2, hfz16_3⟩ := b4_ BK272.out
      obtain ⟨hcz17_0, hcz17_1, hcz17_2, hcz17_3, hfz17_0, hfz17_1, hfz17_2, hfz17_3⟩ := b4_ BK273.out
      go_wp2_with ((go_at_call 40; (with_reducible refine (ferryref03_Same.calls k _ _ l0_0 _ _ l0_1 _ _ l1_0 _ _ l1_1 true _ ?side1 ?side2 ?side3 ?side4 ?side5 ?side6 ?side7 ?side8 A6.out).mono ?_); (case side1 => exact cT_ (Kd.C_below HR0_0.out HB.out)); (case side2 => exact HC0_0.out); (case side3 => exact cT_ (Kd.C_below HR0_1.out HB.out)); (case side4 => exact HC0_1.out); (case side5 => exact cT_ (Kd.C_below HR1_0.out HB.out)); (case side6 => exact HC1_0.out); (case side7 => exact cT_ (Kd.C_below HR1_1.out HB.out)); (case side8 => exact HC1_1.out); rintro e w18 ⟨rfl, hb⟩; replace BK272 := kB_ BK272 hb; replace BK273 := kB_ BK273 hb; replace HB := hB_ hb; (try clear hb); obtain ⟨hcz19_0, hcz19_1, hcz19_2, hcz19_3, hfz19_0, hfz19_1, hfz19_2, hfz19_3⟩ := b4_ BK272.out; obtain ⟨hcz20_0, hcz20_1, hcz20_2, hcz20_3, hfz20_0, hfz20_1, hfz20_2, hfz20_3⟩ := b4_ BK273.out))
      repeat (go_quiet (fail))
      go_meet
      case rel => exact ⟨_, (true), r1_, H', ⟨r2_⟩, ⟨bT_ BK272.out⟩, ⟨bT_ BK273.out⟩, ⟨beT_⟩⟩
    replace c7 := Bool.eq_false_iff.mpr c7
    subst c7
    replace H := hN_ H
    have H' := Aside0.mk H
    clear H
    have hnb21 := NB272_273.out
    have hnc21 := NB273_272.out
    obtain ⟨hcz22_0, hcz22_1, hcz22_2, hcz22_3, hfz22_0, hfz22_1, hfz22_2, hfz22_3⟩ := b4_ BK272.out
    obtain ⟨hcz23_0, hcz23_1, hcz23_2, hcz23_3, hfz23_0, hfz23_1, hfz23_2, hfz23_3⟩ := b4_ BK273.out
    go_wp2_with ((go_at_call 40; (with_reducible refine (ferryref03_Same.calls k _ _ l0_0 _ _ l0_1 _ _ l1_0 _ _ l1_1 false _ ?side1 ?side2 ?side3 ?side4 ?side5 ?side6 ?side7 ?side8 A6.out).mono ?_); (case side1 => exact cT_ (Kd.C_below HR0_0.out HB.out)); (case side2 => exact HC0_0.out); (case side3 => exact cT_ (Kd.C_below HR0_1.out HB.out)); (case side4 => exact HC0_1.out); (case side5 => exact cT_ (Kd.C_below HR1_0.out HB.out)); (case side6 => exact HC1_0.out); (case side7 => exact cT_ (Kd.C_below HR1_1.out HB.out)); (case side8 => exact HC1_1.out); rintro e w24 ⟨rfl, hb⟩; replace BK272 := kB_ BK272 hb; replace BK273 := kB_ BK273 hb; replace HB := hB_ hb; (try clear hb)))
    repeat (go_quiet (fail))
    go_meet
    case rel => exact ⟨_, (true), r1_, H', ⟨r2_⟩, ⟨bT_ BK272.out⟩, ⟨bT_ BK273.out⟩, ⟨beT_⟩⟩
  case rest =>
    clear HC3
    obtain ⟨kq, x27_2, rfl, HA, HJ2, BK272, BK273, HB⟩ := hcut
    cases kq with
    | zero => exact absurd HA.out (by simp [ferryref04_Same.j0])
    | succ kj2 =>
      have H := HA.out
      clear HA
      simp only [ferryref04_Same.j0] at H
      by_cases c25 : x27_2 = true
      · subst c25
        replace H := hP_ H
        obtain rfl := Option.some.inj H
        go_wp2
        repeat (go_quiet (fail))
        go_ret
        exact ⟨r3_, beT_⟩
      replace c25 := Bool.eq_false_iff.mpr c25
      subst c25
      replace H := hN_ H
      have H' := Aside0.mk H
      clear H
      go_wp2
      repeat (go_quiet (fail))
      go_loopg [5] kj2 (fun kq v5 w' => ∃ (x5_2 : Int), v5 = .int .i64 x5_2 ∧ Aside0 (ferryref04_Same.l0 kq x5_2 l0_0 l0_1 a0_2 l0_3 l1_0 l1_1 a1_2 l1_3 = some r) ∧ Aside0 (kq ≤ kj2) ∧ Aside0 (w'.heap[gb272]? = some (.cells #[(.slice A0_0 l0_0.length c0_0), (.slice A0_1 l0_1.length c0_1), .int .u64 a0_2, (.slice A0_3 l0_3.length c0_3)] 29 (0, 0))) ∧ Aside0 (w'.heap[gb273]? = some (.cells #[(.slice A1_0 l1_0.length c1_0), (.slice A1_1 l1_1.length c1_1), .int .u64 a1_2, (.slice A1_3 l1_3.length c1_3)] 29 (0, 0))) ∧ Aside0 (Below w.heap.size w w'))
      case atStart => exact ⟨(0), r1_, H', ⟨Nat.le_refl _⟩, ⟨bT_ BK272.out⟩, ⟨bT_ BK273.out⟩, ⟨beT_⟩⟩
      case round =>
        clear H'
        obtain ⟨x5_2, rfl, HA, HK2, BK272, BK273, HB⟩ := hrel
        cases gk with
        | zero => exact absurd HA.out (by simp [ferryref04_Same.l0])
        | succ k2 =>
          have H := HA.out
          clear HA
          simp only [ferryref04_Same.l0] at H
          by_cases c26 : x5_2 < (l0_3.length : Int)
          · rw [if_pos c26] at H
            have c26b0 : decide (x5_2 < (l0_3.length : Int)) = true := decide_eq_true c26
            clear c26
            by_cases c27 : 0 ≤ x5_2
            · rw [if_pos c27] at H
              have c27b0 : decide (0 ≤ x5_2) = true := decide_eq_true c27
              clear c27
              by_cases c28 : x5_2 < (l1_3.length : Int)
              · rw [if_pos c28] at H
                have c28b0 : decide (x5_2 < (l1_3.length : Int)) = true := decide_eq_true c28
                clear c28
                by_cases c29 : (!(((rd_T41 l0_3 x5_2).f0) == ((rd_T41 l1_3 x5_2).f0)) || (!(((rd_T41 l0_3 x5_2).f1) == ((rd_T41 l1_3 x5_2).f1)))) = true
                · rw [if_pos c29] at H
                  have c29b0 : (!(((rd_T41 l0_3 x5_2).f0) == ((rd_T41 l1_3 x5_2).f0)) || (!(((rd_T41 l0_3 x5_2).f1) == ((rd_T41 l1_3 x5_2).f1)))) = true := c29
                  clear c29
                  obtain rfl := Option.some.inj H
                  have hnb30 := NB272_273.out
                  have hnc30 := NB273_272.out
                  obtain ⟨hcz31_0, hcz31_1, hcz31_2, hcz31_3, hfz31_0, hfz31_1, hfz31_2, hfz31_3⟩ := b4_ BK272.out
                  have p275 : 0 ≤ (x5_2 : Int) := dT_
                  have q275 : x5_2 < (l0_3.length : Int) := dT_
                  obtain ⟨ad275, e275, hx275_0, hx275_1⟩ := at_T41 HR0_3.out x5_2 p275 q275
                  cases e275
                  replace hx275_0 := hX_ hx275_0
                  replace hx275_1 := hX_ hx275_1
                  replace p275 := eq_true p275
                  replace q275 := eq_true q275
                  obtain ⟨hcz32_0, hcz32_1, hcz32_2, hcz32_3, hfz32_0, hfz32_1, hfz32_2, hfz32_3⟩ := b4_ BK273.out
                  have p276 : 0 ≤ (x5_2 : Int) := dT_
                  have q276 : x5_2 < (l1_3.length : Int) := dT_
                  obtain ⟨ad276, e276, hx276_0, hx276_1⟩ := at_T41 HR1_3.out x5_2 p276 q276
                  cases e276
                  replace hx276_0 := hX_ hx276_0
                  replace hx276_1 := hX_ hx276_1
                  replace p276 := eq_true p276
                  replace q276 := eq_true q276
                  go_wp2
                  repeat (go_quiet (fail); try go_wp2)
                  go_ret
                  exact ⟨r3_, beT_⟩
                rw [if_neg c29] at H
                have c29b0 : (!(((rd_T41 l0_3 x5_2).f0) == ((rd_T41 l1_3 x5_2).f0)) || (!(((rd_T41 l0_3 x5_2).f1) == ((rd_T41 l1_3 x5_2).f1)))) = false := by simpa using c29
                clear c29
                have H' := Aside0.mk H
                clear H
                have hnb33 := NB272_273.out
                have hnc33 := NB273_272.out
                obtain ⟨hcz34_0, hcz34_1, hcz34_2, hcz34_3, hfz34_0, hfz34_1, hfz34_2, hfz34_3⟩ := b4_ BK272.out
                have p275 : 0 ≤ (x5_2 : Int) := dT_
                have q275 : x5_2 < (l0_3.length : Int) := dT_
                obtain ⟨ad275, e275, hx275_0, hx275_1⟩ := at_T41 HR0_3.out x5_2 p275 q275
                cases e275
                replace hx275_0 := hX_ hx275_0
                replace hx275_1 := hX_ hx275_1
                replace p275 := eq_true p275
                replace q275 := eq_true q275
                obtain ⟨hcz35_0, hcz35_1, hcz35_2, hcz35_3, hfz35_0, hfz35_1, hfz35_2, hfz35_3⟩ := b4_ BK273.out
                have p276 : 0 ≤ (x5_2 : Int) := dT_
                have q276 : x5_2 < (l1_3.length : Int) := dT_
                obtain ⟨ad276, e276, hx276_0, hx276_1⟩ := at_T41 HR1_3.out x5_2 p276 q276
                cases e276
                replace hx276_0 := hX_ hx276_0
                replace hx276_1 := hX_ hx276_1
                replace p276 := eq_true p276
                replace q276 := eq_true q276
                go_wp2
                repeat (go_quiet (fail); try go_wp2)
                go_roundg k2
                case measure => have := HJ2.out; have := HK2.out; omega
                case rel => exact ⟨(wrap64 (x5_2 + 1)), r1_, H', ⟨by have := HJ2.out; have := HK2.out; omega⟩, ⟨bT_ BK272.out⟩, ⟨bT_ BK273.out⟩, ⟨beT_⟩⟩
              rw [if_neg c28] at H
              exact absurd H (by simp)
            rw [if_neg c27] at H
            exact absurd H (by simp)
          rw [if_neg c26] at H
          have c26b0 : decide (x5_2 < (l0_3.length : Int)) = false := decide_eq_false c26
          clear c26
          obtain rfl := Option.some.inj H
          have hnb36 := NB272_273.out
          have hnc36 := NB273_272.out
          obtain ⟨hcz37_0, hcz37_1, hcz37_2, hcz37_3, hfz37_0, hfz37_1, hfz37_2, hfz37_3⟩ := b4_ BK272.out
          go_wp2
          repeat (go_quiet (fail))
          go_ret
          exact ⟨r3_, beT_⟩

end Go.Proofs.Ytgkjdpdmmlalcaa.F
end
section
namespace Go.Proofs.Ytgkjdpdmmlalcaa.F
open Go.RowKit Go.Shelf Go.Proofs.YtgkjdpdmmlalcaaW.PrintWords Go.Proofs.YtgkjdpdmmlalcaaW.PrintLast Go.Proofs.YtgkjdpdmmlalcaaW.PrintMore
set_option linter.unusedVariables false
set_option linter.unusedSimpArgs false
theorem protP_cons (x : SP) (p : List SP) (n : Int) : protP (x :: p) n = if x.f0 = n then x.f1 else protP p n := by
  unfold protP
  have e1 : has pgK n (x :: p) = (decide (x.f0 = n) || has pgK n p) := rfl
  have e2 : look pgK (fun x => x.f1) n (x :: p) = if x.f0 = n then x.f1 else look pgK (fun x => x.f1) n p := rfl
  rw [e1, e2]
  by_cases hx : x.f0 = n
  · rw [if_pos hx, if_pos hx, decide_eq_true hx, Bool.true_or, if_pos rfl]
  rw [if_neg hx, if_neg hx, decide_eq_false hx, Bool.false_or]
theorem ref04_Prot_l0 (l : List SM) (m : List SC) (b : Int) (p : List SP) (hp : p.length ≤ 1000000) (n : Int) : ∀ (k i : Nat), i ≤ p.length → p.length - i < k → ferryref04_Prot.l0 k n (i : Int) l m b p = some (protP (p.drop i) n)
  | 0, i, _, h => by omega
  | k + 1, i, hi, h => by
    unfold ferryref04_Prot.l0
    by_cases hlt : i < p.length
    · have hw : wrap64 ((i : Int) + 1) = ((i + 1 : Nat) : Int) := by unfold wrap64; omega
      rw [if_pos (by omega), if_pos (by omega), pg_getR hlt, hw, ref04_Prot_l0 l m b p hp n k (i + 1) hlt (by omega), List.drop_eq_getElem_cons hlt, protP_cons]
      split <;> rfl
    rw [if_neg (by omega), List.drop_eq_nil_of_le (by omega)]
    rfl
theorem ref04_Prot (l : List SM) (m : List SC) (b : Int) (p : List SP) (hp : p.length ≤ 1000000) (n : Int) (k : Nat) (hk : p.length < k) : ferryref04_Prot.f k l m b p n = some (protP p n) := ref04_Prot_l0 l m b p hp n k 0 (Nat.zero_le _) (by omega)
theorem hoR_eq {b n : Int} (hb : BaseG b) (n0 : 0 ≤ n) (n1 : n < 1048576) : IntKind.u64.wrap (Int.tdiv (IntKind.u64.wrap (b + (IntKind.u64.wrap ((IntKind.u64.wrap n) * 4096)))) 16384) = hoN b n := by
  have h0 := hb.b0
  have h1 := hb.b1
  have h2 := hb.b2
  unfold hoN
  rw [u64w n, u64w (_ * 4096), u64w (b + _), Int.tdiv_eq_ediv_of_nonneg (by omega), u64w]
  omega
theorem usedN_cons (x : SP) (p : List SP) (b a : Int) : usedN (x :: p) b a = (decide (hoN b x.f0 = a) || usedN p b a) := rfl
theorem ref04_used_l0 (l : List SM) (m : List SC) {b : Int} (hb : BaseG b) {p : List SP} (pp : ∀ x ∈ p, 0 ≤ x.f0 ∧ x.f0 < 1048576) (hp : p.length ≤ 1000000) (a : Int) : ∀ (k i : Nat), i ≤ p.length → p.length - i < k → ferryref04_used.l0 k a (i : Int) l m b p = some (usedN (p.drop i) b a)
  | 0, i, _, h => by omega
  | k + 1, i, hi, h => by
    unfold ferryref04_used.l0
    by_cases hlt : i < p.length
    · have hw : wrap64 ((i : Int) + 1) = ((i + 1 : Nat) : Int) := by unfold wrap64; omega
      have hx := pp _ (List.getElem_mem hlt)
      rw [if_pos (by omega), if_pos (by omega), pg_getR hlt, hw, hoR_eq hb hx.1 hx.2, ref04_used_l0 l m hb pp hp a k (i + 1) hlt (by omega), List.drop_eq_getElem_cons hlt, usedN_cons]
      by_cases h2 : hoN b p[i].f0 = a
      · rw [if_pos h2, decide_eq_true h2, Bool.true_or]
      rw [if_neg h2, decide_eq_false h2, Bool.false_or]
    rw [if_neg (by omega), List.drop_eq_nil_of_le (by omega)]
    rfl
theorem ref04_used (l : List SM) (m : List SC) {b : Int} (hb : BaseG b) {p : List SP} (pp : ∀ x ∈ p, 0 ≤ x.f0 ∧ x.f0 < 1048576) (hp : p.length ≤ 1000000) (a : Int) (k : Nat) (hk : p.length < k) : ferryref04_used.f k l m b p a = some (usedN p b a) := ref04_used_l0 l m hb pp hp a k 0 (Nat.zero_le _) (by omega)
theorem ref04_own (l : List SM) (m : List SC) {b : Int} (hb : BaseG b) (p : List SP) {a : Int} (a0 : 0 ≤ a) (a1 : a < 18446744073709551616) : ferryref04_own.f l m b p a = some (if b ≤ a ∧ a - b < 4294967296 then ((a - b) / 4096, true) else (0, false)) := by
  have h0 := hb.b0
  have h1 := hb.b1
  unfold ferryref04_own.f
  by_cases h : b ≤ a
  · rw [if_neg (by omega), u64w (a - b)]
    by_cases h2 : a - b < 4294967296
    · rw [if_neg (by omega), if_pos ⟨h, h2⟩, Int.tdiv_eq_ediv_of_nonneg (by omega), u64w, show (a - b) % 18446744073709551616 / 4096 % 18446744073709551616 % 4294967296 = (a - b) / 4096 by omega]
    rw [if_pos (by omega), if_neg (fun e => h2 e.2)]
  rw [if_pos (by omega), if_neg (fun e => h e.1)]
section
variable {l : List SM} {m : List SC} {b : Int} {p : List SP} {g : Bool}
theorem ref04_Fit_l2 (hg : g = true ↔ FitG l m b p) (FH : FitH l m) (B : BaseG b) (P : PagesG p) (pm : ∀ x ∈ p, has mpK (hoN b x.f0) l = true)
    (lm : ∀ y ∈ l, b ≤ y.f0 * 16384 → y.f0 * 16384 - b < 4294967296 → y.f1 = 3 ∧ ∃ x ∈ p, hoN b x.f0 = y.f0) : ∀ (k i : Nat), i ≤ m.length → (m.length - i) + p.length + 1 < k →
    (∀ (j : Nat) (hj : j < m.length), j < i → b ≤ m[j].f0 → m[j].f0 - b < 4294967296 → ∃ x ∈ p, x.f0 = (m[j].f0 - b) / 4096) → ferryref04_Fit.l2 k (i : Int) l m b p = some g
  | 0, i, _, h, _ => by omega
  | k + 1, i, hi, h, hn => by
    unfold ferryref04_Fit.l2
    have hm := FH.mn
    have hpn := P.pn
    by_cases hlt : i < m.length
    · have hw : wrap64 ((i : Int) + 1) = ((i + 1 : Nat) : Int) := by unfold wrap64; omega
      have hx := FH.mp _ (List.getElem_mem hlt)
      rw [if_pos (by omega), if_pos (by omega), cl_getR hlt, hw, ref04_own l m B p hx.1 hx.2.1, Option.bind_some]
      have go : (b ≤ m[i].f0 → m[i].f0 - b < 4294967296 → ∃ x ∈ p, x.f0 = (m[i].f0 - b) / 4096) → ferryref04_Fit.l2 k ((i + 1 : Nat) : Int) l m b p = some g := fun hc =>
        ref04_Fit_l2 hg FH B P pm lm k (i + 1) hlt (by omega) (fun j hj hji => by
          rcases Nat.lt_or_ge j i with h1 | h1
          · exact hn j hj h1
          · obtain rfl : j = i := by omega
            exact hc)
      by_cases ha : b ≤ m[i].f0 ∧ m[i].f0 - b < 4294967296
      · rw [if_pos ha, if_pos rfl, ref04_Prot l m b p (by omega) _ k (by omega), Option.bind_some]
        have hd := protP_neg P.pr (fun x hx => (P.pp x hx).2.2.1) ((m[i].f0 - b) / 4096)
        cases hh : has pgK ((m[i].f0 - b) / 4096) p with
        | true =>
          rw [hh] at hd
          obtain ⟨x, hx, e⟩ := has_mem.1 hh
          rw [if_neg (of_decide_eq_false hd)]
          exact go (fun _ _ => ⟨x, hx, e⟩)
        | false =>
          rw [hh] at hd
          rw [if_pos (of_decide_eq_true hd)]
          refine congrArg some (Eq.symm (Bool.eq_false_iff.2 (fun e => ?_)))
          obtain ⟨x, hx, e2⟩ := (hg.1 e).cm _ (List.getElem_mem hlt) ha.1 ha.2
          rw [has_mem.2 ⟨x, hx, e2⟩] at hh
          cases hh
      rw [if_neg ha, if_neg (by simp)]
      exact go (fun h1 h2 => absurd ⟨h1, h2⟩ ha)
    rw [if_neg (by omega)]
    refine congrArg some (Eq.symm (hg.2 ⟨FH, B, P, pm, lm, fun c hc => ?_⟩))
    obtain ⟨j, hj, rfl⟩ := List.getElem_of_mem hc
    exact hn j hj (by omega)
theorem ref04_Fit_l1 (hg : g = true ↔ FitG l m b p) (FH : FitH l m) (B : BaseG b) (P : PagesG p) (pm : ∀ x ∈ p, has mpK (hoN b x.f0) l = true) : ∀ (k i : Nat), i ≤ l.length → (l.length - i) + m.length + p.length + 2 < k →
    (∀ (j : Nat) (hj : j < l.length), j < i → b ≤ l[j].f0 * 16384 → l[j].f0 * 16384 - b < 4294967296 → l[j].f1 = 3 ∧ ∃ x ∈ p, hoN b x.f0 = l[j].f0) → ferryref04_Fit.l1 k (i : Int) l m b p = some g
  | 0, i, _, h, _ => by omega
  | k + 1, i, hi, h, hn => by
    unfold ferryref04_Fit.l1
    have hm := FH.ln
    have hpn := P.pn
    by_cases hlt : i < l.length
    · have hw : wrap64 ((i : Int) + 1) = ((i + 1 : Nat) : Int) := by unfold wrap64; omega
      have hx := FH.lp _ (List.getElem_mem hlt)
      rw [if_pos (by omega), if_pos (by omega), mp_getR hlt, hw, u64w, show l[i].f0 * 16384 % 18446744073709551616 = l[i].f0 * 16384 by omega, ref04_own l m B p (by omega) (by omega), Option.bind_some]
      have go : (b ≤ l[i].f0 * 16384 → l[i].f0 * 16384 - b < 4294967296 → l[i].f1 = 3 ∧ ∃ x ∈ p, hoN b x.f0 = l[i].f0) → ferryref04_Fit.l1 k ((i + 1 : Nat) : Int) l m b p = some g := fun hc =>
        ref04_Fit_l1 hg FH B P pm k (i + 1) hlt (by omega) (fun j hj hji => by
          rcases Nat.lt_or_ge j i with h1 | h1
          · exact hn j hj h1
          · obtain rfl : j = i := by omega
            exact hc)
      have no : ∀ (ha : b ≤ l[i].f0 * 16384 ∧ l[i].f0 * 16384 - b < 4294967296), ¬ (l[i].f1 = 3 ∧ ∃ x ∈ p, hoN b x.f0 = l[i].f0) → some false = some g := fun ha hh =>
        congrArg some (Eq.symm (Bool.eq_false_iff.2 (fun e => hh ((hg.1 e).lm _ (List.getElem_mem hlt) ha.1 ha.2))))
      by_cases ha : b ≤ l[i].f0 * 16384 ∧ l[i].f0 * 16384 - b < 4294967296
      · rw [if_pos ha, if_pos rfl]
        by_cases h3 : l[i].f1 = 3
        · rw [if_pos h3, ref04_used l m B (fun x hx => ⟨(P.pp x hx).1, (P.pp x hx).2.1⟩) (by omega) _ k (by omega), Option.bind_some]
          cases hu : usedN p b l[i].f0 with
          | true =>
            rw [if_pos rfl]
            exact go (fun _ _ => ⟨h3, usedN_iff.1 hu⟩)
          | false =>
            rw [if_neg (by decide)]
            exact no ha (fun e => by rw [usedN_iff.2 e.2] at hu; cases hu)
        rw [if_neg h3]
        exact no ha (fun e => h3 e.1)
      rw [if_neg ha, if_neg (by simp)]
      exact go (fun h1 h2 => absurd ⟨h1, h2⟩ ha)
    rw [if_neg (by omega)]
    refine ref04_Fit_l2 hg FH B P pm (fun y hy => ?_) k 0 (Nat.zero_le _) (by omega) (fun j _ hj => by omega)
    obtain ⟨j, hj, rfl⟩ := List.getElem_of_mem hy
    exact hn j hj (by omega)
theorem ref04_Fit_l0 (hg : g = true ↔ FitG l m b p) (FH : FitH l m) (B : BaseG b) (hpn : p.length ≤ 256) (wp : ∀ x ∈ p, wfP x) : ∀ (k i : Nat), i ≤ p.length → 2 * (p.length - i) + l.length + m.length + p.length + 3 < k →
    (∀ (j : Nat) (hj : j < p.length), j < i → (p[j].f0 < 1048576 ∧ 0 ≤ p[j].f1 ∧ p[j].f1 ≤ 7) ∧ prevGe pgK p j (pgK p[j]) = false ∧ has mpK (hoN b p[j].f0) l = true) → ferryref04_Fit.l0 k (i : Int) l m b p = some g
  | 0, i, _, h, _ => by omega
  | k + 1, i, hi, h, hn => by
    unfold ferryref04_Fit.l0
    have hm := FH.ln
    by_cases hlt : i < p.length
    · have hw : wrap64 ((i : Int) + 1) = ((i + 1 : Nat) : Int) := by unfold wrap64; omega
      have hx : (0 ≤ p[i].f0 ∧ p[i].f0 ≤ 4294967295) ∧ _ := wp _ (List.getElem_mem hlt)
      obtain ⟨k, rfl⟩ : ∃ q, k = q + 1 := ⟨k - 1, by omega⟩
      have hj2 : ∀ t f0 f1, ferryref04_Fit.j2 (k + 1) (i : Int) t l m b p f0 f1 = if t = true then some false else (ferryref03_Place.f k l m (IntKind.u64.wrap (Int.tdiv (IntKind.u64.wrap (b + (IntKind.u64.wrap ((IntKind.u64.wrap f0) * 4096)))) 16384))).bind fun t115 => (if t115 < 0 then (some false) else (ferryref04_Fit.l0 k (wrap64 ((i : Int) + 1)) l m b p)) := fun t f0 f1 => rfl
      have no : ¬ ((p[i].f0 < 1048576 ∧ 0 ≤ p[i].f1 ∧ p[i].f1 ≤ 7) ∧ prevGe pgK p i (pgK p[i]) = false ∧ has mpK (hoN b p[i].f0) l = true) → some false = some g := fun hh =>
        congrArg some (Eq.symm (Bool.eq_false_iff.2 (fun e => hh (by
          have hf := hg.1 e
          have hy := hf.pages.pp _ (List.getElem_mem hlt)
          exact ⟨hy.2, (rises_prev p).1 hf.pages.pr i hlt, hf.pm _ (List.getElem_mem hlt)⟩))))
      rw [if_pos (by omega), if_pos (by omega), pg_getR hlt]
      by_cases h1 : p[i].f0 ≥ 1048576
      · rw [if_pos h1, hj2, if_pos rfl]
        exact no (fun e => by omega)
      rw [if_neg h1]
      by_cases h2 : p[i].f1 < 0
      · rw [if_pos h2, hj2, if_pos rfl]
        exact no (fun e => by omega)
      rw [if_neg h2]
      by_cases h3 : p[i].f1 > 7
      · rw [if_pos h3, hj2, if_pos rfl]
        exact no (fun e => by omega)
      have hj3 : ∀ t, ferryref04_Fit.j2 (k + 1) (i : Int) t l m b p p[i].f0 p[i].f1 = if t = true then some false else (if placeR l (hoN b p[i].f0) < 0 then some false else ferryref04_Fit.l0 k ((i + 1 : Nat) : Int) l m b p) := fun t => by
        rw [hj2, hw, hoR_eq B hx.1.1 (by omega), ref_place _ l m (by omega) k (by omega), Option.bind_some]
      rw [if_neg h3]
      have hpl := placeR_has l (hoN b p[i].f0)
      have go : prevGe pgK p i (pgK p[i]) = false → (if placeR l (hoN b p[i].f0) < 0 then some false else ferryref04_Fit.l0 k ((i + 1 : Nat) : Int) l m b p) = some g := fun hpv => by
        cases hh : has mpK (hoN b p[i].f0) l with
        | false =>
          rw [hh] at hpl
          rw [if_pos (of_decide_eq_true hpl)]
          exact no (fun e => by rw [hh] at e; cases e.2.2)
        | true =>
          rw [hh] at hpl
          rw [if_neg (of_decide_eq_false hpl)]
          exact ref04_Fit_l0 hg FH B hpn wp k (i + 1) hlt (by omega) (fun j hj hji => by
            rcases Nat.lt_or_ge j i with h4 | h4
            · exact hn j hj h4
            · obtain rfl : j = i := by omega
              exact ⟨⟨by omega, by omega, by omega⟩, hpv, hh⟩)
      by_cases hi0 : (i : Int) > 0
      · obtain ⟨i, rfl⟩ : ∃ q, i = q + 1 := ⟨i - 1, by omega⟩
        have hw2 : wrap64 (((i + 1 : Nat) : Int) - 1) = ((i : Nat) : Int) := by unfold wrap64; omega
        have hpv : prevGe pgK p (i + 1) (pgK p[i + 1]) = decide ((p[i]'(by omega)).f0 ≥ p[i + 1].f0) := prevGe_succ pgK p i (by omega) _
        rw [if_pos hi0, hw2, if_pos (by omega), if_pos (by omega), pg_getR (by omega), hj3]
        rw [hpv] at go
        by_cases h4 : (p[i]'(by omega)).f0 ≥ p[i + 1].f0
        · rw [decide_eq_true h4, if_pos rfl]
          exact no (fun e => by rw [hpv, decide_eq_true h4] at e; cases e.2.1)
        rw [decide_eq_false h4, if_neg (by decide)]
        exact go (decide_eq_false h4)
      rw [if_neg hi0, hj3, if_neg (by decide)]
      refine go ?_
      obtain rfl : i = 0 := by omega
      rfl
    rw [if_neg (by omega)]
    have hi2 : ∀ (j : Nat) (hj : j < p.length), _ := fun j hj => hn j hj (by omega)
    have P : PagesG p := ⟨hpn, (rises_prev p).2 (fun j hj => (hi2 j hj).2.1), fun x hx => by
      obtain ⟨j, hj, rfl⟩ := List.getElem_of_mem hx
      have hx2 : (0 ≤ p[j].f0 ∧ p[j].f0 ≤ 4294967295) ∧ _ := wp _ hx
      exact ⟨hx2.1.1, (hi2 j hj).1⟩⟩
    refine ref04_Fit_l1 hg FH B P (fun x hx => ?_) k 0 (Nat.zero_le _) (by omega) (fun j _ hj => by omega)
    obtain ⟨j, hj, rfl⟩ := List.getElem_of_mem hx
    exact (hi2 j hj).2.2
end
theorem ref04_Fit {l : List SM} {m : List SC} {b : Int} {p : List SP} (wl : ∀ x ∈ l, wfM x) (wm : ∀ x ∈ m, wfC x) (b0 : 0 ≤ b) (b1 : b ≤ 18446744073709551615) (wp : ∀ x ∈ p, wfP x) (hl : l.length ≤ 1000000) (hm : m.length ≤ 1000000) (k : Nat) (hk : 3 * p.length + l.length + m.length + 5 < k) :
    ferryref04_Fit.f k l m b p = some (gfitB l m b p) := by
  have hg := gfitB_iff (p := p) wl wm b0 b1 wp
  generalize gfitB l m b p = g at hg ⊢
  unfold ferryref04_Fit.f
  obtain ⟨k, rfl⟩ : ∃ q, k = q + 1 := ⟨k - 1, by omega⟩
  have hj0 : ∀ t, ferryref04_Fit.j0 (k + 1) t l m b p = if t = true then some false else ferryref04_Fit.l0 k 0 l m b p := fun t => rfl
  rw [ref_Fit_spec l m ⟨hl, hm⟩, Option.bind_some, hj0, hj0, if_pos rfl]
  have no : ¬ FitG l m b p → some false = some g := fun hh => congrArg some (Eq.symm (Bool.eq_false_iff.2 (fun e => hh (hg.1 e))))
  by_cases hf : fitR l m = true
  rotate_left
  · rw [if_neg hf]
    exact no (fun e => hf e.h.fitR)
  rw [if_pos hf, Int.tmod_eq_emod_of_nonneg b0]
  by_cases h1 : b % 16384 = 0
  rotate_left
  · rw [if_neg h1]
    exact no (fun e => h1 e.base.b2)
  rw [if_pos h1]
  by_cases h2 : b > 4611686018427387904
  · rw [if_pos h2]
    exact no (fun e => by have := e.base.b1; omega)
  rw [if_neg h2]
  by_cases h3 : (p.length : Int) > 256
  · rw [decide_eq_true h3, if_pos rfl]
    exact no (fun e => by have := e.pages.pn; omega)
  rw [decide_eq_false h3, if_neg (by decide)]
  exact ref04_Fit_l0 hg ((fitR_iff wl wm).1 hf) ⟨b0, by omega, h1⟩ (by omega) wp k 0 (Nat.zero_le _) (by omega) (fun j _ hj => by omega)
def eqPg (x y : SP) : Bool := (x.f0 == y.f0) && (x.f1 == y.f1)
def sameG (l : List SM) (m : List SC) (b : Int) (p : List SP) (l' : List SM) (m' : List SC) (b' : Int) (p' : List SP) : Bool := sameS l m l' m' && (decide (b = b') && eqL eqPg p p')
theorem sameG_refl (l : List SM) (m : List SC) (b : Int) (p : List SP) : sameG l m b p l m b p = true := by
  unfold sameG
  rw [sameS_refl, decide_eq_true rfl, eqL_refl (fun x => by unfold eqPg; simp) p]
  rfl
theorem ref04_Same_l0 (l : List SM) (m : List SC) (b : Int) (p : List SP) (l' : List SM) (m' : List SC) (b' : Int) (p' : List SP) (e : p.length = p'.length) (hp : p.length ≤ 1000000) : ∀ (k i : Nat), i ≤ p.length → p.length - i < k → ferryref04_Same.l0 k (i : Int) l m b p l' m' b' p' = some (eqL eqPg (p.drop i) (p'.drop i))
  | 0, i, _, h => by omega
  | k + 1, i, hi, h => by
    unfold ferryref04_Same.l0
    by_cases hlt : i < p.length
    · have hw : wrap64 ((i : Int) + 1) = ((i + 1 : Nat) : Int) := by unfold wrap64; omega
      rw [if_pos (by omega), if_pos (by omega), if_pos (by omega), pg_getR hlt, pg_getR (by omega), hw, ref04_Same_l0 l m b p l' m' b' p' e hp k (i + 1) hlt (by omega), List.drop_eq_getElem_cons hlt, List.drop_eq_getElem_cons (show i < p'.length by omega)]
      rw [show eqL eqPg (p[i] :: p.drop (i + 1)) (p'[i] :: p'.drop (i + 1)) = (eqPg p[i] p'[i] && eqL eqPg (p.drop (i + 1)) (p'.drop (i + 1))) from rfl]
      unfold eqPg
      cases (p[i].f0 == p'[i].f0) <;> cases (p[i].f1 == p'[i].f1) <;> rfl
    rw [if_neg (by omega), List.drop_eq_nil_of_le (by omega), List.drop_eq_nil_of_le (by omega)]
    rfl
theorem ref04_Same (l : List SM) (m : List SC) (b : Int) (p : List SP) (l' : List SM) (m' : List SC) (b' : Int) (p' : List SP) (hl : l.length ≤ 1000000) (hm : m.length ≤ 1000000) (hp : p.length ≤ 1000000) (k : Nat) (hk : l.length + m.length + p.length + 3 < k) :
    ferryref04_Same.f k l m b p l' m' b' p' = some (sameG l m b p l' m' b' p') := by
  unfold ferryref04_Same.f sameG
  obtain ⟨k, rfl⟩ : ∃ q, k = q + 1 := ⟨k - 1, by omega⟩
  have hj0 : ∀ t, ferryref04_Same.j0 (k + 1) t l m b p l' m' b' p' = if t = true then some false else ferryref04_Same.l0 k 0 l m b p l' m' b' p' := fun t => rfl
  rw [ref_Same l m l' m' hl hm (k + 1) (by omega), Option.bind_some, hj0, hj0, if_pos rfl]
  cases hs : sameS l m l' m' with
  | false => rfl
  | true =>
    rw [if_pos rfl, Bool.true_and]
    by_cases hb : b = b'
    · rw [if_pos hb, decide_eq_true hb, Bool.true_and]
      by_cases e : p.length = p'.length
      · rw [bne_eq_false_iff_eq.2 (by omega), if_neg (by decide)]
        exact ref04_Same_l0 l m b p l' m' b' p' e hp k 0 (Nat.zero_le _) (by omega)
      rw [bne_iff_ne.2 (by omega), if_pos rfl]
      cases h : eqL eqPg p p' with
      | false => rfl
      | true => exact absurd (eqL_length h) e
    rw [if_neg hb, decide_eq_false hb, Bool.false_and]
end Go.Proofs.Ytgkjdpdmmlalcaa.F
end
section
namespace Go.Proofs.Ytgkjdpdmmlalcaa.F
open Go.RowKit Go.Shelf Go.Proofs.YtgkjdpdmmlalcaaW.PrintWords Go.Proofs.YtgkjdpdmmlalcaaW.PrintLast Go.Proofs.YtgkjdpdmmlalcaaW.PrintMore
set_option linter.unusedVariables false
set_option linter.unusedSimpArgs false
theorem kP_heap : Kd.Heap kP := Kd.heap_iso _ (Kd.heap_pair (Kd.heap_int .u32) (Kd.heap_int .i64))
def inP (x : SP) (a n : Int) : Bool := decide (x.f0 ≥ a) && decide (IntKind.u32.wrap (x.f0 - a) < n)
def delS (p : List SP) (a n : Int) : List SP := p.filter (fun x => !inP x a n)
def RowsG (W : World) (ok : Nat → Prop) (A0 : Option Addr) (c0 : Nat) (A1 : Option Addr) (c1 : Nat) (A3 : Option Addr) (c3 : Nat) (l : List SM) (m : List SC) (p : List SP) : Prop :=
  Kd.V kM 83 W 0 ok (.slice A0 l.length c0) l ∧ Kd.V kC 88 W 0 ok (.slice A1 m.length c1) m ∧ Kd.V kP 41 W 0 ok (.slice A3 p.length c3) p
section
variable {W W' : World} {ok ok' : Nat → Prop} {A0 A1 A3 : Option Addr} {c0 c1 c3 : Nat} {l : List SM} {m : List SC} {p : List SP}
theorem RowsG.below (h : RowsG W ok A0 c0 A1 c1 A3 c3 l m p) (hb : Below W.heap.size W W') : RowsG W' ok A0 c0 A1 c1 A3 c3 l m p := ⟨Kd.V_below h.1 hb, Kd.V_below h.2.1 hb, Kd.V_below h.2.2 hb⟩
theorem RowsG.wide (h : RowsG W ok A0 c0 A1 c1 A3 c3 l m p) (hk : ∀ k, ok k → ok' k) : RowsG W ok' A0 c0 A1 c1 A3 c3 l m p := ⟨Kd.V_mono h.1 hk, Kd.V_mono h.2.1 hk, Kd.V_mono h.2.2 hk⟩
theorem RowsG.move (h : RowsG W ok A0 c0 A1 c1 A3 c3 l m p) (hk : ∀ k, ok k → k < W.heap.size → W'.heap[k]? = W.heap[k]?) : RowsG W' ok A0 c0 A1 c1 A3 c3 l m p := ⟨Kd.V_step h.1 hk, Kd.V_step h.2.1 hk, Kd.V_step h.2.2 hk⟩
theorem RowsG.bound (h : RowsG W ok A0 c0 A1 c1 A3 c3 l m p) : RowsG W (fun k => ok k ∧ k < W.heap.size) A0 c0 A1 c1 A3 c3 l m p := ⟨Kd.V_bound h.1, Kd.V_bound h.2.1, Kd.V_bound h.2.2⟩
theorem RowsG.of (hC : Kd.C kM W A0 l.length l) (hc : l.length ≤ c0) (hD : Kd.C kC W A1 m.length m) (hd : m.length ≤ c1) (hE : Kd.C kP W A3 p.length p) (he : p.length ≤ c3) : RowsG W (fun k => k < W.heap.size) A0 c0 A1 c1 A3 c3 l m p :=
  ⟨Kd.V_mk hc (Kd.C_F kM_heap hC), Kd.V_mk hd (Kd.C_F kC_heap hD), Kd.V_mk he (Kd.C_F kP_heap hE)⟩
theorem RowsG.r0 (h : RowsG W ok A0 c0 A1 c1 A3 c3 l m p) : Kd.C kM W A0 l.length l := (Kd.V_reads' h.1).2.2
theorem RowsG.r1 (h : RowsG W ok A0 c0 A1 c1 A3 c3 l m p) : Kd.C kC W A1 m.length m := (Kd.V_reads' h.2.1).2.2
theorem RowsG.r3 (h : RowsG W ok A0 c0 A1 c1 A3 c3 l m p) : Kd.C kP W A3 p.length p := (Kd.V_reads' h.2.2).2.2
theorem RowsG.n0 (h : RowsG W ok A0 c0 A1 c1 A3 c3 l m p) : l.length ≤ c0 := (Kd.V_reads' h.1).2.1
theorem RowsG.n1 (h : RowsG W ok A0 c0 A1 c1 A3 c3 l m p) : m.length ≤ c1 := (Kd.V_reads' h.2.1).2.1
theorem RowsG.n3 (h : RowsG W ok A0 c0 A1 c1 A3 c3 l m p) : p.length ≤ c3 := (Kd.V_reads' h.2.2).2.1
theorem RowsG.host (h : RowsG W ok A0 c0 A1 c1 A3 c3 l m p) : HostV W (.slice A0 l.length c0) (.slice A1 m.length c1) l m := ⟨SlV.of_view h.1, SlV.of_view h.2.1⟩
theorem RowsG.swap {b0 b1 : Nat} {v0 v1 : Value} {l' : List SM} {m' : List SC} (h : RowsG W ok A0 c0 A1 c1 A3 c3 l m p) (h0 : Kd.V kM 83 W b0 ok v0 l') (h1 : Kd.V kC 88 W b1 ok v1 m') :
    ∃ A c B d, v0 = .slice A l'.length c ∧ v1 = .slice B m'.length d ∧ RowsG W ok A c B d A3 c3 l' m' p := by
  obtain ⟨A, c, rfl, hc, hF⟩ := h0
  obtain ⟨B, d, rfl, hd, hG⟩ := h1
  exact ⟨A, c, B, d, rfl, rfl, Kd.V_mk hc hF, Kd.V_mk hd hG, h.2.2⟩
def OwnP (W : World) (B : Nat) (A : Option Addr) (c : Nat) (p : List SP) : Prop := (A = none ∧ c = 0 ∧ p = []) ∨ ∃ g, A = some ⟨g, 0, none⟩ ∧ B ≤ g ∧ OwnB pgE 41 W g c p
theorem OwnP.of {v : Value} {B : Nat} {ok : Nat → Prop} (h : Kd.R kP 41 W B ok v p) : ∃ A c, v = .slice A p.length c ∧ OwnP W B A c p := by
  rcases pg_own h with ⟨rfl, rfl⟩ | ⟨g, cap, rfl, hg, ho⟩
  · exact ⟨none, 0, rfl, .inl ⟨rfl, rfl, rfl⟩⟩
  · exact ⟨_, cap, rfl, .inr ⟨g, rfl, hg, ho⟩⟩
theorem OwnP.R {A : Option Addr} {c B : Nat} (h : OwnP W B A c p) : Kd.R kP 41 W B (fun _ => True) (.slice A p.length c) p := by
  rcases h with ⟨rfl, rfl, rfl⟩ | ⟨g, rfl, hg, ho⟩
  · exact Kd.R_nil _ _ _ _ _
  · exact pg_R ho hg
theorem OwnP.move {A : Option Addr} {c B : Nat} (h : OwnP W B A c p) (hk : ∀ k, B ≤ k → k < W.heap.size → W'.heap[k]? = W.heap[k]?) : OwnP W' B A c p := by
  rcases h with h | ⟨g, e, hg, ho⟩
  · exact .inl h
  · exact .inr ⟨g, e, hg, ho.move (hk g hg ho.lt)⟩
def RowsH (W : World) (ok : Nat → Prop) (A0 : Option Addr) (c0 : Nat) (A1 : Option Addr) (c1 : Nat) (l : List SM) (m : List SC) : Prop := Kd.V kM 83 W 0 ok (.slice A0 l.length c0) l ∧ Kd.V kC 88 W 0 ok (.slice A1 m.length c1) m
theorem RowsG.rows (h : RowsG W ok A0 c0 A1 c1 A3 c3 l m p) : RowsH W ok A0 c0 A1 c1 l m := ⟨h.1, h.2.1⟩
theorem RowsH.below (h : RowsH W ok A0 c0 A1 c1 l m) (hb : Below W.heap.size W W') : RowsH W' ok A0 c0 A1 c1 l m := ⟨Kd.V_below h.1 hb, Kd.V_below h.2 hb⟩
theorem RowsH.wide (h : RowsH W ok A0 c0 A1 c1 l m) (hk : ∀ k, ok k → ok' k) : RowsH W ok' A0 c0 A1 c1 l m := ⟨Kd.V_mono h.1 hk, Kd.V_mono h.2 hk⟩
theorem RowsH.move (h : RowsH W ok A0 c0 A1 c1 l m) (hk : ∀ k, ok k → k < W.heap.size → W'.heap[k]? = W.heap[k]?) : RowsH W' ok A0 c0 A1 c1 l m := ⟨Kd.V_step h.1 hk, Kd.V_step h.2 hk⟩
theorem RowsH.bound (h : RowsH W ok A0 c0 A1 c1 l m) : RowsH W (fun k => ok k ∧ k < W.heap.size) A0 c0 A1 c1 l m := ⟨Kd.V_bound h.1, Kd.V_bound h.2⟩
theorem RowsH.swap {b0 b1 : Nat} {v0 v1 : Value} {l' : List SM} {m' : List SC} (h0 : Kd.V kM 83 W b0 ok v0 l') (h1 : Kd.V kC 88 W b1 ok v1 m') :
    ∃ A c B d, v0 = .slice A l'.length c ∧ v1 = .slice B m'.length d ∧ RowsH W ok A c B d l' m' := by
  obtain ⟨A, c, rfl, hc, hF⟩ := h0
  obtain ⟨B, d, rfl, hd, hG⟩ := h1
  exact ⟨A, c, B, d, rfl, rfl, Kd.V_mk hc hF, Kd.V_mk hd hG⟩
end
end Go.Proofs.Ytgkjdpdmmlalcaa.F
end
section
namespace Go.Proofs.Ytgkjdpdmmlalcaa.F
open Go.RowKit Go.Shelf Go.Proofs.YtgkjdpdmmlalcaaW.PrintWords Go.Proofs.YtgkjdpdmmlalcaaW.PrintLast Go.Proofs.YtgkjdpdmmlalcaaW.PrintMore
set_option linter.unusedVariables false
set_option linter.unusedSimpArgs false
def Flat {α : Type} (d : Kd α) : Prop := ∀ (W W' : World) (x : α) (c : List Value), d.K W x c → d.K W' x c
theorem kM_flat : Flat kM := fun _ _ _ _ h => h
theorem kC_flat : Flat kC := fun _ _ _ _ h => h
def IsC (W : World) (k : Nat) : Prop := ∃ cs t f, W.heap[k]? = some (.cells cs t f)
theorem isC_of_cell {W : World} {a : Addr} {u : Value} (h : W.cell? a = some u) : IsC W a.block := by
  unfold World.cell? at h
  cases hb : W.heap[a.block]? with
  | none => rw [hb] at h; cases h
  | some o =>
    rw [hb] at h
    cases o with
    | cells cs t f => exact ⟨cs, t, f, hb⟩
    | _ => cases h
theorem gadd_block (a : Addr) (n : Nat) : (a.add n).block = a.block := by unfold Addr.add; split <;> rfl
theorem C_block {α : Type} {d : Kd α} {W : World} {p : Addr} {n : Nat} {xs : List α} (h : Kd.C d W (some p) n xs) (hs : 0 < d.sz) (hn : 0 < n) : IsC W p.block := by
  obtain ⟨ad, e, hc⟩ := h.2.2 hn
  obtain rfl := Option.some.inj e
  have hl := h.1
  obtain ⟨c, hcl, _, hcell⟩ := hc 0 _ (List.getElem?_eq_getElem (by omega))
  exact gadd_block p (0 * d.sz + 0) ▸ isC_of_cell (hcell 0 c[0] (List.getElem?_eq_getElem (by omega)))
theorem C_same {α : Type} {d : Kd α} (hf : Flat d) {W W' : World} {A : Option Addr} {n : Nat} {xs : List α} (h : Kd.C d W A n xs) (hA : ∀ p, A = some p → 0 < n → W'.heap[p.block]? = W.heap[p.block]?) : Kd.C d W' A n xs := by
  refine ⟨h.1, h.2.1, fun hn => ?_⟩
  obtain ⟨ad, e, hc⟩ := h.2.2 hn
  refine ⟨ad, e, fun j p hj => ?_⟩
  obtain ⟨c, h1, h2, h3⟩ := hc j p hj
  exact ⟨c, h1, hf _ _ _ _ h2, fun i u hu => (World.cell?_of_block (a := ad.add (j * d.sz + i)) (by rw [gadd_block]; exact hA ad e hn)).trans (h3 i u hu)⟩
theorem F_in {α : Type} {d : Kd α} {W : World} {ok : Nat → Prop} {p : Addr} {n : Nat} {xs : List α} (h : Kd.F d W ok (some p) n xs) (hs : 0 < d.sz) (hn : 0 < n) : ok p.block := by
  refine Classical.byContradiction (fun hno => ?_)
  have h1 := h (W.putObj p.block (.deferred none)) (fun k hk _ => World.putObj_heap_other (fun e => hno (e ▸ hk)))
  obtain ⟨cs, t, f, h2⟩ := C_block h1 hs hn
  unfold World.putObj at h2
  rw [Array.getElem?_setIfInBounds_self] at h2
  split at h2 <;> cases h2
theorem F_cells {α : Type} {d : Kd α} (hf : Flat d) (hs : 0 < d.sz) {W : World} {ok : Nat → Prop} {A : Option Addr} {n : Nat} {xs : List α} (h : Kd.F d W ok A n xs) : Kd.F d W (fun k => ok k ∧ IsC W k) A n xs := fun W' hW =>
  C_same hf (Kd.F_now h) (fun p e hn => by
    subst e
    have hc := C_block (Kd.F_now h) hs hn
    obtain ⟨cs, t, f, h2⟩ := hc
    exact hW p.block ⟨F_in h hs hn, ⟨cs, t, f, h2⟩⟩ (sblk_lt h2))
theorem V_cells {α : Type} {d : Kd α} (hf : Flat d) (hs : 0 < d.sz) {e B : Nat} {W : World} {ok : Nat → Prop} {v : Value} {xs : List α} (h : Kd.V d e W B ok v xs) : Kd.V d e W B (fun k => ok k ∧ IsC W k) v xs := by
  obtain ⟨A, c, ev, hc, hF⟩ := h
  exact ⟨A, c, ev, hc, F_cells hf hs hF⟩
theorem RowsH.own {W W' : World} {ok : Nat → Prop} {A0 A1 : Option Addr} {c0 c1 : Nat} {l : List SM} {m : List SC} {row : Option Nat} (h : RowsH W ok A0 c0 A1 c1 l m) (hg : W.grownBy W' row) (hr : ∀ r, row = some r → ∃ o : Obj, W.heap[r]? = some o ∧ o.isCells = false) : RowsH W' ok A0 c0 A1 c1 l m := by
  have h2 : RowsH W (fun k => ok k ∧ IsC W k) A0 c0 A1 c1 l m := ⟨V_cells kM_flat (by decide) h.1, V_cells kC_flat (by decide) h.2⟩
  refine (h2.move (fun k hk hlt => hg.block k hlt (fun e => ?_))).wide (fun k hk => hk.1)
  obtain ⟨o, ho, hc⟩ := hr k e.symm
  obtain ⟨cs, t, f, h3⟩ := hk.2
  rw [h3] at ho
  cases ho
  cases hc
theorem blk_own {W W' : World} {row : Option Nat} {b : Nat} {cs : Array Value} {t : TypeId} {f : Nat × Nat} (h : W.heap[b]? = some (.cells cs t f)) (hg : W.grownBy W' row) (hr : ∀ r, row = some r → ∃ o : Obj, W.heap[r]? = some o ∧ o.isCells = false) : W'.heap[b]? = some (.cells cs t f) := by
  refine (hg.block b (sblk_lt h) (fun e => ?_)).trans h
  obtain ⟨o, ho, hc⟩ := hr b e.symm
  rw [h] at ho
  cases ho
  cases hc
set_option maxHeartbeats 4000000 in
theorem gPlace_any.calls (A0 : Option Addr) (n0 c0 : Nat) (A1 : Option Addr) (n1 c1 : Nat) (b : Int) (A3 : Option Addr) (n3 c3 : Nat) (a : Int) (w : World) :
    Calls Try.prog 75 #[.agg #[.slice A0 n0 c0, .slice A1 n1 c1, .int .u64 b, .slice A3 n3 c3], .int .u32 a] w fun e w' => e = .returned (.int .u64 (IntKind.u64.wrap (b + IntKind.u64.wrap a))) ∧ Below w.heap.size w w' := by
  have hu := Try.underlying29
  have HB := Lib.hid (below_new w (.cells #[.slice A0 n0 c0, .slice A1 n1 c1, .int .u64 b, .slice A3 n3 c3] 29))
  have q := (sblk_cell (blk_new w (.cells #[.slice A0 n0 c0, .slice A1 n1 c1, .int .u64 b, .slice A3 n3 c3] 29)) 2).trans rfl
  go_enter Try.func75, Try.ntmps75
  go_wp2
  go_ret
  exact ⟨rfl, HB.out⟩
def hostsL (lo hi : Int) : List Int := (List.range (hi + 1 - lo).toNat).map (fun (i : Nat) => lo + (i : Int))
def HInv (gw B0 B1 B2 : Nat) (b first n : Int) (W : World) : Prop :=
  W.heap[B0]? = some (.cells #[.pointer (some ⟨gw, 0, none⟩)] 133 (0, 0)) ∧ W.heap[B1]? = some (.cells #[.int .u32 first] 30 (0, 0)) ∧ W.heap[B2]? = some (.cells #[.int .u32 n] 30 (0, 0)) ∧
  ∃ A0 n0 c0 A1 n1 c1 A3 n3 c3, W.heap[gw]? = some (.cells #[.slice A0 n0 c0, .slice A1 n1 c1, .int .u64 b, .slice A3 n3 c3] 135 (0, 0))
theorem HInv.below {gw B0 B1 B2 : Nat} {b first n : Int} {W W' : World} (h : HInv gw B0 B1 B2 b first n W) (hb : Below W.heap.size W W') : HInv gw B0 B1 B2 b first n W' := by
  obtain ⟨h0, h1, h2, A0, n0, c0, A1, n1, c1, A3, n3, c3, h3⟩ := h
  exact ⟨blk_below h0 hb, blk_below h1 hb, blk_below h2 hb, A0, n0, c0, A1, n1, c1, A3, n3, c3, blk_below h3 hb⟩
theorem HInv.own {gw B0 B1 B2 : Nat} {b first n : Int} {W W' : World} {row : Option Nat} (h : HInv gw B0 B1 B2 b first n W) (hg : W.grownBy W' row) (hr : ∀ r, row = some r → ∃ o : Obj, W.heap[r]? = some o ∧ o.isCells = false) : HInv gw B0 B1 B2 b first n W' := by
  obtain ⟨h0, h1, h2, A0, n0, c0, A1, n1, c1, A3, n3, c3, h3⟩ := h
  exact ⟨blk_own h0 hg hr, blk_own h1 hg hr, blk_own h2 hg hr, A0, n0, c0, A1, n1, c1, A3, n3, c3, blk_own h3 hg hr⟩
end Go.Proofs.Ytgkjdpdmmlalcaa.F
end
section
namespace Go.Proofs.Ytgkjdpdmmlalcaa.F
open Go.RowKit Go.Shelf Go.Proofs.YtgkjdpdmmlalcaaW.PrintWords Go.Proofs.YtgkjdpdmmlalcaaW.PrintLast Go.Proofs.YtgkjdpdmmlalcaaW.PrintMore
set_option linter.unusedVariables false
set_option linter.unusedSimpArgs false
attribute [local go_sem] Oper.semAt_some
def moreG (a : Int) (n : Nat) (q : Int) : List SP := (List.range n).map (fun i : Nat => ⟨(a + ((i : Nat) : Int)) % 4294967296, q⟩)
def GuestV (W : World) (v0 v1 v3 : Value) (l : List SM) (m : List SC) (p : List SP) : Prop := SlV kM W v0 l ∧ SlV kC W v1 m ∧ SlV kP W v3 p
def RetG (W : World) (l : List SM) (m : List SC) (b : Int) (p : List SP) (f : Value → Value) : Ending → World → Prop := fun e w' => ∃ A0 c0 A1 c1 A3 c3, e = .returned (f (.agg #[.slice A0 l.length c0, .slice A1 m.length c1, .int .u64 b, .slice A3 p.length c3])) ∧ GuestV w' (.slice A0 l.length c0) (.slice A1 m.length c1) (.slice A3 p.length c3) l m p ∧ Below W.heap.size W w'
def RetA (W : World) (ok : Nat → Prop) (l : List SM) (m : List SC) (b : Int) (p : List SP) (f : Value → Value) : Ending → World → Prop := fun e w' => ∃ A0 c0 A1 c1 A3 c3, e = .returned (f (.agg #[.slice A0 l.length c0, .slice A1 m.length c1, .int .u64 b, .slice A3 p.length c3])) ∧ RowsG w' (fun k => ok k ∨ W.heap.size ≤ k) A0 c0 A1 c1 A3 c3 l m p ∧ Below W.heap.size W w'
theorem RetA.G {W : World} {ok : Nat → Prop} {l : List SM} {m : List SC} {b : Int} {p : List SP} {f : Value → Value} {e : Ending} {w' : World} (h : RetA W ok l m b p f e w') : RetG W l m b p f e w' := by
  obtain ⟨A0, c0, A1, c1, A3, c3, he, hr, hb⟩ := h
  exact ⟨A0, c0, A1, c1, A3, c3, he, ⟨SlV.of_view hr.1, SlV.of_view hr.2.1, SlV.of_view hr.2.2⟩, hb⟩
theorem OwnP.V {W : World} {B : Nat} {A : Option Addr} {c : Nat} {p : List SP} (h : OwnP W B A c p) : Kd.V kP 41 W 0 (fun k => B ≤ k) (.slice A p.length c) p := Kd.V_mono (Kd.R_V (base' := 0) (Kd.R_bound h.R)) (fun k hk => hk.2.1)
theorem OwnP.own {W W' : World} {B : Nat} {A : Option Addr} {c : Nat} {p : List SP} {row : Option Nat} (h : OwnP W B A c p) (hg : W.grownBy W' row) (hr : ∀ r, row = some r → ∃ o : Obj, W.heap[r]? = some o ∧ o.isCells = false) : OwnP W' B A c p := by
  rcases h with h | ⟨g, e, hB, cur, h0, h1⟩
  · exact .inl h
  · exact .inr ⟨g, e, hB, cur, blk_own h0 hg hr, h1⟩
theorem OwnP.C {W : World} {B : Nat} {A : Option Addr} {c : Nat} {p : List SP} (h : OwnP W B A c p) : Kd.C kP W A p.length p ∧ p.length ≤ c := by
  obtain ⟨A', c', e, h1, h2⟩ := Kd.R_reads h.R
  cases e
  exact ⟨h2, h1⟩
def okGM (okI : Nat → Prop) (w : World) (gw : Nat) (A3 : Option Addr) (k : Nat) : Prop := ((okI k ∧ k < w.heap.size) ∨ gw + 1 + 1 ≤ k) ∧ ∀ g, A3 = some ⟨g, 0, none⟩ → k ≠ g
theorem OwnP.lt {W : World} {B : Nat} {A : Option Addr} {c : Nat} {p : List SP} (h : OwnP W B A c p) {g : Nat} (e : A = some ⟨g, 0, none⟩) : B ≤ g ∧ g < W.heap.size := by
  rcases h with h | ⟨g', e', hB, ho⟩
  · rw [h.1] at e
    cases e
  · rw [e'] at e
    cases e
    exact ⟨hB, ho.lt⟩
structure MapI (okI : Nat → Prop) (w W : World) (gv : Array Value) (gw B : Nat) (b a n : Int) (p2 : List SP) (st : List SM × List SC) : Prop where
  bel : Below w.heap.size w W
  c4 : W.heap[w.heap.size]? = some (.cells gv 29 (0, 0))
  c8 : W.heap[w.heap.size + 1]? = some (.cells #[.slice none 0 0, .slice none 0 0, .int .u64 0, .slice none 0 0] 29 (0, 0))
  c9 : W.heap[w.heap.size + 1 + 1]? = some (.cells #[.int .i64 0] 53 (0, 0))
  c10 : W.heap[gw + 1]? = some (.cells #[.pointer (some ⟨gw, 0, none⟩)] 133 (0, 0))
  h0 : W.heap[B]? = some (.cells #[.pointer (some ⟨gw, 0, none⟩)] 133 (0, 0))
  h1 : W.heap[B + 1]? = some (.cells #[.int .u32 a] 30 (0, 0))
  h2 : W.heap[B + 1 + 1]? = some (.cells #[.int .u32 n] 30 (0, 0))
  cw : ∃ A0 c0 A1 c1 A3 c3, W.heap[gw]? = some (.cells #[.slice A0 st.1.length c0, .slice A1 st.2.length c1, .int .u64 b, .slice A3 p2.length c3] 135 (0, 0)) ∧ RowsH W (okGM okI w gw A3) A0 c0 A1 c1 st.1 st.2 ∧ OwnP W (gw + 1 + 1) A3 c3 p2
  fit : FitH st.1 st.2
section
variable {okI : Nat → Prop} {w W W' : World} {gv : Array Value} {gw B : Nat} {b a n : Int} {p2 : List SP} {st : List SM × List SC}
theorem MapI.below (h : MapI okI w W gv gw B b a n p2 st) (hb : Below W.heap.size W W') : MapI okI w W' gv gw B b a n p2 st := by
  obtain ⟨A0, c0, A1, c1, A3, c3, hc, hR, hO⟩ := h.cw
  exact ⟨h.bel.trans (hb.mono h.bel.size), blk_below h.c4 hb, blk_below h.c8 hb, blk_below h.c9 hb, blk_below h.c10 hb, blk_below h.h0 hb, blk_below h.h1 hb, blk_below h.h2 hb,
    ⟨A0, c0, A1, c1, A3, c3, blk_below hc hb, hR.below hb, hO.move (fun k _ hk => hb.block k hk)⟩, h.fit⟩
theorem MapI.own {row : Option Nat} (h : MapI okI w W gv gw B b a n p2 st) (hg : W.grownBy W' row) (hr : ∀ r, row = some r → w.heap.size ≤ r ∧ ∃ o : Obj, W.heap[r]? = some o ∧ o.isCells = false) : MapI okI w W' gv gw B b a n p2 st := by
  obtain ⟨A0, c0, A1, c1, A3, c3, hc, hR, hO⟩ := h.cw
  have hr' := fun r e => (hr r e).2
  exact ⟨h.bel.grown hg h.bel.size (fun k e => (hr k e).1), blk_own h.c4 hg hr', blk_own h.c8 hg hr', blk_own h.c9 hg hr', blk_own h.c10 hg hr', blk_own h.h0 hg hr', blk_own h.h1 hg hr', blk_own h.h2 hg hr',
    ⟨A0, c0, A1, c1, A3, c3, blk_own hc hg hr', hR.own hg hr', hO.own hg hr'⟩, h.fit⟩
theorem MapI.put {A0 A1 A3 : Option Addr} {c0 c1 c3 : Nat} {x y : Value} {l' : List SM} {m' : List SC} (h : MapI okI w W gv gw B b a n p2 st) (hz : w.heap.size + 1 + 1 < gw) (hB : gw + 1 < B) (hc : W.heap[gw]? = some (.cells #[x, y, .int .u64 b, .slice A3 p2.length c3] 135 (0, 0)))
    (hR : RowsH W (okGM okI w gw A3) A0 c0 A1 c1 l' m') (ho : OwnP W (gw + 1 + 1) A3 c3 p2) (hF : FitH l' m') : MapI okI w ((W.setCell ⟨gw, 0, none⟩ (.slice A0 l'.length c0)).setCell ⟨gw, 1, none⟩ (.slice A1 m'.length c1)) gv gw B b a n p2 (l', m') := by
  have F : ∀ {k : Nat} {cs : Array Value} {t : TypeId}, W.heap[k]? = some (.cells cs t (0, 0)) → k ≠ gw → ((W.setCell ⟨gw, 0, none⟩ (.slice A0 l'.length c0)).setCell ⟨gw, 1, none⟩ (.slice A1 m'.length c1)).heap[k]? = some (.cells cs t (0, 0)) := fun hh hn => blk_far2 hh hn _ _
  exact ⟨(h.bel.setCell (p := ⟨gw, 0, none⟩) (by show w.heap.size ≤ gw; omega) _).setCell (p := ⟨gw, 1, none⟩) (by show w.heap.size ≤ gw; omega) _, F h.c4 (by omega), F h.c8 (by omega), F h.c9 (by omega), F h.c10 (by omega), F h.h0 (by omega), F h.h1 (by omega), F h.h2 (by omega),
    ⟨A0, c0, A1, c1, A3, c3, blk_put (blk_put hc 0 _ rfl) 1 _ rfl, hR.move (fun k hk _ => (set_far (show k ≠ gw by have h1 := hk.1; omega)).trans (set_far (show k ≠ gw by have h1 := hk.1; omega))), ho.move (fun k hk _ => (set_far (by omega)).trans (set_far (by omega)))⟩, hF⟩
end
def gMap.T21 : Bool × List (List Nat × List Nat) := (true, [([], []), ([], []), ([1], [1]), ([2], [2]), ([3], [3]), ([4], [4]), ([], []), ([], []), ([5, 6, 7], [5, 6, 7]), ([0, 0, 1, 2, 3, 4, 5, 6, 7, 8], [0]), ([9, 0, 1, 2, 3, 4, 5, 6, 7, 8], [9]), ([10, 0, 1, 2, 3, 4, 5, 6, 7, 8], [10]), ([11, 8, 8, 0, 1, 2, 3, 4, 5, 6, 7, 8], [8, 11])])
def gMap.B21 : List Nat := [0, 0, 2, 6, 14, 30, 0, 0, 254, 511, 1023, 2047, 4095]
theorem gMap.tab21 : rtab .any (opsOf Try.f64 21) = gMap.T21 := by kernel_rfl
theorem gMap.bits21 : waitsOk gMap.T21.2 gMap.B21 = true := by kernel_rfl
end Go.Proofs.Ytgkjdpdmmlalcaa.F
end
section
namespace Go.Proofs.Ytgkjdpdmmlalcaa.F
open Go.RowKit Go.Proofs.YtgkjdpdmmlalcaaW.PrintWords Go.Proofs.YtgkjdpdmmlalcaaW.PrintLast Go.Proofs.YtgkjdpdmmlalcaaW.PrintMore
attribute [local go_sem] max2_int min2_int max_two min_two max_three min_three max_four min_four
set_option linter.unusedVariables false
set_option linter.unusedSimpArgs false

def ferryref04_Place.f (l0_0 : List (S83)) (l0_1 : List (S88)) (a0_2 : Int) (l0_3 : List (S41)) (a1 : Int) : Option (Int) := some (IntKind.u64.wrap (a0_2 + (IntKind.u64.wrap (a1))))
set_option maxHeartbeats 8000000 in
set_option maxRecDepth 100000 in
theorem ferryref04_Place.calls (A0_0 : Option Addr) (c0_0 : Nat) (l0_0 : List (S83)) (A0_1 : Option Addr) (c0_1 : Nat) (l0_1 : List (S88)) (a0_2 : Int) (A0_3 : Option Addr) (c0_3 : Nat) (l0_3 : List (S41)) (a1 : Int) (r : Int) (w : World) (hr0_0 : Kd.C k83 w A0_0 l0_0.length l0_0) (hc0_0 : l0_0.length ≤ c0_0) (hr0_1 : Kd.C k88 w A0_1 l0_1.length l0_1) (hc0_1 : l0_1.length ≤ c0_1) (hr0_3 : Kd.C k41 w A0_3 l0_3.length l0_3) (hc0_3 : l0_3.length ≤ c0_3) (h : ferryref04_Place.f l0_0 l0_1 a0_2 l0_3 a1 = some r) :
    Calls Try.prog 14 #[.agg #[.slice A0_0 l0_0.length c0_0, .slice A0_1 l0_1.length c0_1, .int .u64 a0_2, .slice A0_3 l0_3.length c0_3], .int .u32 a1] w fun e w' => e = .returned (.int .u64 r) ∧ Below w.heap.size w w' := by
  have hu29 := Try.underlying29
  have HR0_0 := Aside0.mk hr0_0
  have HC0_0 := Aside0.mk hc0_0
  clear hr0_0 hc0_0
  have HR0_1 := Aside0.mk hr0_1
  have HC0_1 := Aside0.mk hc0_1
  clear hr0_1 hc0_1
  have HR0_3 := Aside0.mk hr0_3
  have HC0_3 := Aside0.mk hc0_3
  clear hr0_3 hc0_3
  have HB := Aside0.mk (Below.refl w.heap.size w)
  have H : (some (IntKind.u64.wrap (a0_2 + (IntKind.u64.wrap (a1))))) = some r := h
  clear h
  obtain rfl := Option.some.inj H
  go_enter Try.func14, Try.ntmps14
  go_wp2_with (first | ((with_reducible refine gate_dst (N := 2) rfl ?_); refine bE_ 2 #[.slice A0_0 l0_0.length c0_0, .slice A0_1 l0_1.length c0_1, .int .u64 a0_2, .slice A0_3 l0_3.length c0_3] 29 ?_; intro gb179 hg w3 hbox hb; have BK179 := Aside0.mk hbox; have GW179 := geT_ w.heap.size hg; have GE179 := geT_ w.heap.size hg; replace HB := hB_ hb; clear hb hbox hg; obtain ⟨hcz4_0, hcz4_1, hcz4_2, hcz4_3, hfz4_0, hfz4_1, hfz4_2, hfz4_3⟩ := b4_ BK179.out))
  go_ret
  exact ⟨r3_, beT_⟩

end Go.Proofs.Ytgkjdpdmmlalcaa.F
end
section
namespace Go.Proofs.Ytgkjdpdmmlalcaa.F
open Go.RowKit Go.Proofs.YtgkjdpdmmlalcaaW.PrintWords Go.Proofs.YtgkjdpdmmlalcaaW.PrintLast Go.Proofs.YtgkjdpdmmlalcaaW.PrintMore
attribute [local go_sem] max2_int min2_int max_two min_two max_three min_three max_four min_four
set_option linter.unusedVariables false
set_option linter.unusedSimpArgs false

def ferryref04_wrong.f (a0 : Int) (a1 : Int) (a2 : Int) : Option (Bool) := if a1 = 0 then (some true) else (if a0 ≥ 1048576 then (some true) else (if a1 > ((1048576 - a0) % 4294967296) then (some true) else (if a2 < 0 then (some true) else (some (decide (a2 > 7))))))
set_option maxHeartbeats 8000000 in
set_option maxRecDepth 100000 in
theorem ferryref04_wrong.calls (a0 : Int) (a1 : Int) (a2 : Int) (r : Bool) (w : World) (h : ferryref04_wrong.f a0 a1 a2 = some r) :
    Calls Try.prog 69 #[.int .u32 a0, .int .u32 a1, .int .i64 a2] w fun e w' => e = .returned (.bool r) ∧ Drawn0 w w' := by
  have H : (if a1 = 0 then (some true) else (if a0 ≥ 1048576 then (some true) else (if a1 > ((1048576 - a0) % 4294967296) then (some true) else (if a2 < 0 then (some true) else (some (decide (a2 > 7))))))) = some r := h
  clear h
  by_cases c4 : a1 = 0
  · rw [if_pos c4] at H
    have c4b0 : (a1 == 0) = true := beq_iff_eq.mpr c4
    have c4b1 : (a1 != 0) = false := bne_eq_false_iff_eq.mpr c4
    clear c4
    obtain rfl := Option.some.inj H
    go_enter Try.func69, Try.ntmps69
    go_wp2
    go_ret
    exact ⟨by first | rfl | (simp; done) | (simp [*]; done), by repeat (first | exact Drawn0.refl _ | apply Drawn0.step)⟩
  rw [if_neg c4] at H
  have c4b0 : (a1 == 0) = false := beq_eq_false_iff_ne.mpr c4
  have c4b1 : (a1 != 0) = true := bne_iff_ne.mpr c4
  by_cases c5 : a0 ≥ 1048576
  · rw [if_pos c5] at H
    have c5b0 : decide (1048576 ≤ a0) = true := decide_eq_true c5
    clear c5
    obtain rfl := Option.some.inj H
    go_enter Try.func69, Try.ntmps69
    go_wp2
    go_ret
    exact ⟨by first | rfl | (simp; done) | (simp [*]; done), by repeat (first | exact Drawn0.refl _ | apply Drawn0.step)⟩
  rw [if_neg c5] at H
  have c5b0 : decide (1048576 ≤ a0) = false := decide_eq_false c5
  clear c5
  by_cases c6 : a1 > ((1048576 - a0) % 4294967296)
  · rw [if_pos c6] at H
    have c6b0 : decide (((1048576 - a0) % 4294967296) < a1) = true := decide_eq_true c6
    (try (have c6bs0 := c6b0; simp only [Int.add_emod_emod, Int.emod_add_emod, Int.sub_emod_emod, Int.emod_sub_emod] at c6bs0))
    clear c6
    obtain rfl := Option.some.inj H
    go_enter Try.func69, Try.ntmps69
    go_wp2
    go_ret
    exact ⟨by first | rfl | (simp; done) | (simp [*]; done), by repeat (first | exact Drawn0.refl _ | apply Drawn0.step)⟩
  rw [if_neg c6] at H
  have c6b0 : decide (((1048576 - a0) % 4294967296) < a1) = false := decide_eq_false c6
  (try (have c6bs0 := c6b0; simp only [Int.add_emod_emod, Int.emod_add_emod, Int.sub_emod_emod, Int.emod_sub_emod] at c6bs0))
  clear c6
  by_cases c7 : a2 < 0
  · rw [if_pos c7] at H
    have c7b0 : decide (a2 < 0) = true := decide_eq_true c7
    clear c7
    obtain rfl := Option.some.inj H
    go_enter Try.func69, Try.ntmps69
    go_wp2
    go_ret
    exact ⟨by first | rfl | (simp; done) | (simp [*]; done), by repeat (first | exact Drawn0.refl _ | apply Drawn0.step)⟩
  rw [if_neg c7] at H
  have c7b0 : decide (a2 < 0) = false := decide_eq_false c7
  clear c7
  obtain rfl := Option.some.inj H
  go_enter Try.func69, Try.ntmps69
  go_wp2
  go_ret
  exact ⟨by first | rfl | (simp; done) | (simp [*]; done), by repeat (first | exact Drawn0.refl _ | apply Drawn0.step)⟩

end Go.Proofs.Ytgkjdpdmmlalcaa.F
end
section
namespace Go.Proofs.Ytgkjdpdmmlalcaa.F
open Go.RowKit Go.Proofs.YtgkjdpdmmlalcaaW.PrintWords Go.Proofs.YtgkjdpdmmlalcaaW.PrintLast Go.Proofs.YtgkjdpdmmlalcaaW.PrintMore
attribute [local go_sem] max2_int min2_int max_two min_two max_three min_three max_four min_four
attribute [local go_sem] cell_twice
set_option linter.unusedVariables false
set_option linter.unusedSimpArgs false

def ferryref04_without.l0 : Nat → Int → Int → List (S41) → Int → List (S83) → List (S88) → Int → List (S41) → Option ((List (S41)))
  | 0, _, _, _, _, _, _, _, _ => none
  | k + 1, x1, x2, x7, x8, x224000, x224001, x224002, x224003 => if x8 < (x224003.length : Int) then (if 0 ≤ x8 then (if ((rd_T41 x224003 x8).f0) < x1 then (if x7.length < 8796093022208 then (ferryref04_without.l0 k x1 x2 (x7 ++ [(⟨(rd_T41 x224003 x8).f0, (rd_T41 x224003 x8).f1⟩ : S41)]) (wrap64 (x8 + 1)) x224000 x224001 x224002 x224003) else (none)) else (if ((((rd_T41 x224003 x8).f0) - x1) % 4294967296) ≥ x2 then (if x7.length < 8796093022208 then (ferryref04_without.l0 k x1 x2 (x7 ++ [(⟨(rd_T41 x224003 x8).f0, (rd_T41 x224003 x8).f1⟩ : S41)]) (wrap64 (x8 + 1)) x224000 x224001 x224002 x224003) else (none)) else (ferryref04_without.l0 k x1 x2 x7 (wrap64 (x8 + 1)) x224000 x224001 x224002 x224003))) else (none)) else (some x7)
def ferryref04_without.f (k : Nat) (l0_0 : List (S83)) (l0_1 : List (S88)) (a0_2 : Int) (l0_3 : List (S41)) (a1 : Int) (a2 : Int) : Option ((List (S41))) := ferryref04_without.l0 k a1 a2 ([] : List (S41)) 0 l0_0 l0_1 a0_2 l0_3
set_option maxHeartbeats 8000000 in
set_option maxRecDepth 100000 in
theorem ferryref04_without.calls (k : Nat) (A0_0 : Option Addr) (c0_0 : Nat) (l0_0 : List (S83)) (A0_1 : Option Addr) (c0_1 : Nat) (l0_1 : List (S88)) (a0_2 : Int) (A0_3 : Option Addr) (c0_3 : Nat) (l0_3 : List (S41)) (a1 : Int) (a2 : Int) (r : List (S41)) (w : World) (hr0_0 : Kd.C k83 w A0_0 l0_0.length l0_0) (hc0_0 : l0_0.length ≤ c0_0) (hr0_1 : Kd.C k88 w A0_1 l0_1.length l0_1) (hc0_1 : l0_1.length ≤ c0_1) (hr0_3 : Kd.C k41 w A0_3 l0_3.length l0_3) (hc0_3 : l0_3.length ≤ c0_3) (h : ferryref04_without.f k l0_0 l0_1 a0_2 l0_3 a1 a2 = some r) :
    Calls Try.prog 70 #[.agg #[.slice A0_0 l0_0.length c0_0, .slice A0_1 l0_1.length c0_1, .int .u64 a0_2, .slice A0_3 l0_3.length c0_3], .int .u32 a1, .int .u32 a2] w fun e w' => ∃ v0_ : Value, e = .returned (v0_) ∧ Kd.R k41 41 w' w.heap.size (fun _ => True) v0_ r ∧ Below w.heap.size w w' := by
  have hu29 := Try.underlying29
  have hu41 := Try.underlying41
  have HR0_0 := Aside0.mk hr0_0
  have HC0_0 := Aside0.mk hc0_0
  clear hr0_0 hc0_0
  have HR0_1 := Aside0.mk hr0_1
  have HC0_1 := Aside0.mk hc0_1
  clear hr0_1 hc0_1
  have HR0_3 := Aside0.mk hr0_3
  have HC0_3 := Aside0.mk hc0_3
  clear hr0_3 hc0_3
  have HB := Aside0.mk (Below.refl w.heap.size w)
  have H : (ferryref04_without.l0 k a1 a2 ([] : List (S41)) 0 l0_0 l0_1 a0_2 l0_3) = some r := h
  clear h
  have H' := Aside0.mk H
  clear H
  go_enter Try.func70, Try.ntmps70
  go_wp2_with (((with_reducible refine gate_dst (N := 3) rfl ?_); refine bE_ 3 #[.slice A0_0 l0_0.length c0_0, .slice A0_1 l0_1.length c0_1, .int .u64 a0_2, .slice A0_3 l0_3.length c0_3] 29 ?_; intro gb223 hg w4 hbox hb; have BK223 := Aside0.mk hbox; have GW223 := geT_ w.heap.size hg; have GE223 := geT_ w.heap.size hg; replace HB := hB_ hb; clear hb hbox hg))
  go_loopg [7, 8] k (fun kq v7 v8 w' => ∃ (x7_1 : List (S41)) (x8_1 : Int), v8 = .int .i64 x8_1 ∧ Aside0 (ferryref04_without.l0 kq a1 a2 x7_1 x8_1 l0_0 l0_1 a0_2 l0_3 = some r) ∧ Aside0 (kq ≤ k) ∧ Aside0 (Kd.R k41 41 w' w.heap.size (fun _ => True) v7 x7_1) ∧ Aside0 (w'.heap[gb223]? = some (.cells #[(.slice A0_0 l0_0.length c0_0), (.slice A0_1 l0_1.length c0_1), .int .u64 a0_2, (.slice A0_3 l0_3.length c0_3)] 29 (0, 0))) ∧ Aside0 (Below w.heap.size w w'))
  case atStart => exact ⟨(([] : List (S41))), (0), r1_, H', ⟨Nat.le_refl _⟩, ⟨by exact Kd.R_nil _ _ _ _ _⟩, ⟨bT_ BK223.out⟩, ⟨beT_⟩⟩
  case round =>
    clear H'
    obtain ⟨x7_1, x8_1, rfl, HA, HK1, HO_7, BK223, HB⟩ := hrel
    cases gk with
    | zero => exact absurd HA.out (by simp [ferryref04_without.l0])
    | succ k1 =>
      have H := HA.out
      clear HA
      simp only [ferryref04_without.l0] at H
      by_cases c5 : x8_1 < (l0_3.length : Int)
      · rw [if_pos c5] at H
        have c5b0 : decide (x8_1 < (l0_3.length : Int)) = true := decide_eq_true c5
        clear c5
        by_cases c6 : 0 ≤ x8_1
        · rw [if_pos c6] at H
          have c6b0 : decide (0 ≤ x8_1) = true := decide_eq_true c6
          clear c6
          by_cases c7 : ((rd_T41 l0_3 x8_1).f0) < a1
          · rw [if_pos c7] at H
            have c7b0 : decide (((rd_T41 l0_3 x8_1).f0) < a1) = true := decide_eq_true c7
            clear c7
            by_cases c8 : x7_1.length < 8796093022208
            · rw [if_pos c8] at H
              have LMc8 := Aside0.mk c8
              clear c8
              obtain ⟨y226, hy226⟩ : ∃ y_ : List (S41), y_ = (x7_1 ++ [(⟨(rd_T41 l0_3 x8_1).f0, (rd_T41 l0_3 x8_1).f1⟩ : S41)]) := ⟨_, rfl⟩
              replace H : (ferryref04_without.l0 k1 a1 a2 y226 (wrap64 (x8_1 + 1)) l0_0 l0_1 a0_2 l0_3) = some r := by (rw [hy226]; with_reducible exact H)
              have Ny226 := Aside0.mk hy226
              clear hy226
              have H' := Aside0.mk H
              clear H
              obtain ⟨hcz9_0, hcz9_1, hcz9_2, hcz9_3, hfz9_0, hfz9_1, hfz9_2, hfz9_3⟩ := b4_ BK223.out
              have p224 : 0 ≤ (x8_1 : Int) := dT_
              have q224 : x8_1 < (l0_3.length : Int) := dT_
              obtain ⟨ad224, e224, hx224_0, hx224_1⟩ := at_T41 HR0_3.out x8_1 p224 q224
              cases e224
              replace hx224_0 := hX_ hx224_0
              replace hx224_1 := hX_ hx224_1
              replace p224 := eq_true p224
              replace q224 := eq_true q224
              go_wp2_with (first | ((with_reducible refine gate_dst (N := 9) rfl ?_); refine bE_ 9 #[.int .u32 0, .int .i64 0] 41 ?_; intro gb225 hg w10 hbox hb; have BK225 := Aside0.mk hbox; have GW225 := geT_ w.heap.size hg; have GE225 := geT_ w.heap.size hg; have NB223_225 := nlT_ BK223.out hg; have NB225_223 := ngT_ BK223.out hg; replace HO_7 := rE_ HO_7.out hg hb; replace BK223 := kB_ BK223 hb; replace HB := hB_ hb; clear hb hbox hg; have hnb11 := NB225_223.out; have hnc11 := NB223_225.out; obtain ⟨hcz12_0, hcz12_1, hfz12_0, hfz12_1⟩ := b2_ BK225.out) | ((with_reducible refine gate_builtin (b := .append) (xs := #[.tmp 34, .tmp 36]) rfl ?_); at_builtin; refine Kd.R_append k41 (w0 := w) w.heap.size rfl (.tmp 34) (.tmp 36) 27 41 (.agg #[(.int .u32 0), (.int .i64 0)]) 16 rfl Try.underlying27 info41 rfl (by decide) (by omega) u7 x7_1 (⟨(rd_T41 l0_3 x8_1).f0, (rd_T41 l0_3 x8_1).f1⟩ : S41) [.int .u32 ((rd_T41 l0_3 x8_1).f0), .int .i64 ((rd_T41 l0_3 x8_1).f1)] (fun k_ => k_ ≠ gb225) (fun _ => False) rfl (by (go_simp; done)) ?aP (fun _ hk => hk.elim) ?aF ?aO ?aB ?aS ?aL ?_; (case aP => exact k41_mkM _ _ _ (⟨(rd_T41 l0_3 x8_1).f0, (rd_T41 l0_3 x8_1).f1⟩ : S41)); (case aB => exact beT_); (case aF => exact (fun k_ hk => Kd.freshB (g := gb225) (o := .cells #[.int .u32 ((rd_T41 l0_3 x8_1).f0), .int .i64 ((rd_T41 l0_3 x8_1).f1)] 41 (0, 0)) (kP_ BK225.out) k_ hk)); (case aO => exact (rF_ HO_7.out)); (case aS => exact (below_size beT_)); (case aL => have := LMc8.out; omega); intro v227 w13 ho hb hg hat; rw [← Ny226.out] at ho; have HO228 := Aside0.mk ho; replace BK223 := kG_ BK223.out hg (Kd.R_ne HO_7.out BK223.out (by decide)); replace BK225 := Aside0.mk (blk_grown (g := gb225) (o := .cells #[.int .u32 ((rd_T41 l0_3 x8_1).f0), .int .i64 ((rd_T41 l0_3 x8_1).f1)] 41 (0, 0)) (kP_ BK225.out) hg (Kd.R_away HO_7.out (fun _ hk => by exact hk.2))); replace HB := Aside0.mk hb; clear HO_7; clear ho hb hg hat))
              go_roundg k1
              case measure => have := HK1.out; omega
              case rel => exact ⟨(y226), (wrap64 (x8_1 + 1)), r1_, H', ⟨by have := HK1.out; omega⟩, ⟨rM_ HO228.out⟩, ⟨bT_ BK223.out⟩, ⟨beT_⟩⟩
            rw [if_neg c8] at H
            exact absurd H (by simp)
          rw [if_neg c7] at H
          have c7b0 : decide (((rd_T41 l0_3 x8_1).f0) < a1) = false := decide_eq_false c7
          clear c7
          by_cases c14 : ((((rd_T41 l0_3 x8_1).f0) - a1) % 4294967296) ≥ a2
          · rw [if_pos c14] at H
            have c14b0 : decide (a2 ≤ ((((rd_T41 l0_3 x8_1).f0) - a1) % 4294967296)) = true := decide_eq_true c14
            clear c14
            by_cases c15 : x7_1.length < 8796093022208
            · rw [if_pos c15] at H
              have LMc15 := Aside0.mk c15
              clear c15
              obtain ⟨y229, hy229⟩ : ∃ y_ : List (S41), y_ = (x7_1 ++ [(⟨(rd_T41 l0_3 x8_1).f0, (rd_T41 l0_3 x8_1).f1⟩ : S41)]) := ⟨_, rfl⟩
              replace H : (ferryref04_without.l0 k1 a1 a2 y229 (wrap64 (x8_1 + 1)) l0_0 l0_1 a0_2 l0_3) = some r := by (rw [hy229]; with_reducible exact H)
              have Ny229 := Aside0.mk hy229
              clear hy229
              have H' := Aside0.mk H
              clear H
              obtain ⟨hcz16_0, hcz16_1, hcz16_2, hcz16_3, hfz16_0, hfz16_1, hfz16_2, hfz16_3⟩ := b4_ BK223.out
              have p224 : 0 ≤ (x8_1 : Int) := dT_
              have q224 : x8_1 < (l0_3.length : Int) := dT_
              obtain ⟨ad224, e224, hx224_0, hx224_1⟩ := at_T41 HR0_3.out x8_1 p224 q224
              cases e224
              replace hx224_0 := hX_ hx224_0
              replace hx224_1 := hX_ hx224_1
              replace p224 := eq_true p224
              replace q224 := eq_true q224
              go_wp2_with (first | ((with_reducible refine gate_dst (N := 9) rfl ?_); refine bE_ 9 #[.int .u32 0, .int .i64 0] 41 ?_; intro gb225 hg w17 hbox hb; have BK225 := Aside0.mk hbox; have GW225 := geT_ w.heap.size hg; have GE225 := geT_ w.heap.size hg; have NB223_225 := nlT_ BK223.out hg; have NB225_223 := ngT_ BK223.out hg; replace HO_7 := rE_ HO_7.out hg hb; replace BK223 := kB_ BK223 hb; replace HB := hB_ hb; clear hb hbox hg; have hnb18 := NB225_223.out; have hnc18 := NB223_225.out; obtain ⟨hcz19_0, hcz19_1, hfz19_0, hfz19_1⟩ := b2_ BK225.out) | ((with_reducible refine gate_builtin (b := .append) (xs := #[.tmp 34, .tmp 36]) rfl ?_); at_builtin; refine Kd.R_append k41 (w0 := w) w.heap.size rfl (.tmp 34) (.tmp 36) 27 41 (.agg #[(.int .u32 0), (.int .i64 0)]) 16 rfl Try.underlying27 info41 rfl (by decide) (by omega) u7 x7_1 (⟨(rd_T41 l0_3 x8_1).f0, (rd_T41 l0_3 x8_1).f1⟩ : S41) [.int .u32 ((rd_T41 l0_3 x8_1).f0), .int .i64 ((rd_T41 l0_3 x8_1).f1)] (fun k_ => k_ ≠ gb225) (fun _ => False) rfl (by (go_simp; done)) ?aP (fun _ hk => hk.elim) ?aF ?aO ?aB ?aS ?aL ?_; (case aP => exact k41_mkM _ _ _ (⟨(rd_T41 l0_3 x8_1).f0, (rd_T41 l0_3 x8_1).f1⟩ : S41)); (case aB => exact beT_); (case aF => exact (fun k_ hk => Kd.freshB (g := gb225) (o := .cells #[.int .u32 ((rd_T41 l0_3 x8_1).f0), .int .i64 ((rd_T41 l0_3 x8_1).f1)] 41 (0, 0)) (kP_ BK225.out) k_ hk)); (case aO => exact (rF_ HO_7.out)); (case aS => exact (below_size beT_)); (case aL => have := LMc15.out; omega); intro v230 w20 ho hb hg hat; rw [← Ny229.out] at ho; have HO231 := Aside0.mk ho; replace BK223 := kG_ BK223.out hg (Kd.R_ne HO_7.out BK223.out (by decide)); replace BK225 := Aside0.mk (blk_grown (g := gb225) (o := .cells #[.int .u32 ((rd_T41 l0_3 x8_1).f0), .int .i64 ((rd_T41 l0_3 x8_1).f1)] 41 (0, 0)) (kP_ BK225.out) hg (Kd.R_away HO_7.out (fun _ hk => by exact hk.2))); replace HB := Aside0.mk hb; clear HO_7; clear ho hb hg hat))
              go_roundg k1
              case measure => have := HK1.out; omega
              case rel => exact ⟨(y229), (wrap64 (x8_1 + 1)), r1_, H', ⟨by have := HK1.out; omega⟩, ⟨rM_ HO231.out⟩, ⟨bT_ BK223.out⟩, ⟨beT_⟩⟩
            rw [if_neg c15] at H
            exact absurd H (by simp)
          rw [if_neg c14] at H
          have c14b0 : decide (a2 ≤ ((((rd_T41 l0_3 x8_1).f0) - a1) % 4294967296)) = false := decide_eq_false c14
          clear c14
          have H' := Aside0.mk H
          clear H
          obtain ⟨hcz21_0, hcz21_1, hcz21_2, hcz21_3, hfz21_0, hfz21_1, hfz21_2, hfz21_3⟩ := b4_ BK223.out
          have p224 : 0 ≤ (x8_1 : Int) := dT_
          have q224 : x8_1 < (l0_3.length : Int) := dT_
          obtain ⟨ad224, e224, hx224_0, hx224_1⟩ := at_T41 HR0_3.out x8_1 p224 q224
          cases e224
          replace hx224_0 := hX_ hx224_0
          replace hx224_1 := hX_ hx224_1
          replace p224 := eq_true p224
          replace q224 := eq_true q224
          go_wp2_with (((with_reducible refine gate_dst (N := 9) rfl ?_); refine bE_ 9 #[.int .u32 0, .int .i64 0] 41 ?_; intro gb225 hg w22 hbox hb; have BK225 := Aside0.mk hbox; have GW225 := geT_ w.heap.size hg; have GE225 := geT_ w.heap.size hg; have NB223_225 := nlT_ BK223.out hg; have NB225_223 := ngT_ BK223.out hg; replace HO_7 := rE_ HO_7.out hg hb; replace BK223 := kB_ BK223 hb; replace HB := hB_ hb; clear hb hbox hg; have hnb23 := NB225_223.out; have hnc23 := NB223_225.out; obtain ⟨hcz24_0, hcz24_1, hfz24_0, hfz24_1⟩ := b2_ BK225.out))
          go_roundg k1
          case measure => have := HK1.out; omega
          case rel => exact ⟨(x7_1), (wrap64 (x8_1 + 1)), r1_, H', ⟨by have := HK1.out; omega⟩, ⟨rF_ HO_7.out⟩, ⟨bfT_ BK223.out⟩, ⟨beT_⟩⟩
        rw [if_neg c6] at H
        exact absurd H (by simp)
      rw [if_neg c5] at H
      have c5b0 : decide (x8_1 < (l0_3.length : Int)) = false := decide_eq_false c5
      clear c5
      obtain rfl := Option.some.inj H
      obtain ⟨hcz25_0, hcz25_1, hcz25_2, hcz25_3, hfz25_0, hfz25_1, hfz25_2, hfz25_3⟩ := b4_ BK223.out
      go_wp2
      go_ret
      exact ⟨_, r3_, (rT_ HO_7.out), beT_⟩

end Go.Proofs.Ytgkjdpdmmlalcaa.F
end
section
namespace Go.Proofs.Ytgkjdpdmmlalcaa.F
open Go.RowKit Go.Proofs.YtgkjdpdmmlalcaaW.PrintWords Go.Proofs.YtgkjdpdmmlalcaaW.PrintLast Go.Proofs.YtgkjdpdmmlalcaaW.PrintMore
attribute [local go_sem] max2_int min2_int max_two min_two max_three min_three max_four min_four
set_option linter.unusedVariables false
set_option linter.unusedSimpArgs false

def ferryref04_hostPage.f (l0_0 : List (S83)) (l0_1 : List (S88)) (a0_2 : Int) (l0_3 : List (S41)) (a1 : Int) : Option (Int) := some (IntKind.u64.wrap ((IntKind.u64.wrap (Int.tdiv a0_2 16384)) + (IntKind.u64.wrap (Int.tdiv (IntKind.u64.wrap (a1)) 4))))
set_option maxHeartbeats 8000000 in
set_option maxRecDepth 100000 in
theorem ferryref04_hostPage.calls (A0_0 : Option Addr) (c0_0 : Nat) (l0_0 : List (S83)) (A0_1 : Option Addr) (c0_1 : Nat) (l0_1 : List (S88)) (a0_2 : Int) (A0_3 : Option Addr) (c0_3 : Nat) (l0_3 : List (S41)) (a1 : Int) (r : Int) (w : World) (hr0_0 : Kd.C k83 w A0_0 l0_0.length l0_0) (hc0_0 : l0_0.length ≤ c0_0) (hr0_1 : Kd.C k88 w A0_1 l0_1.length l0_1) (hc0_1 : l0_1.length ≤ c0_1) (hr0_3 : Kd.C k41 w A0_3 l0_3.length l0_3) (hc0_3 : l0_3.length ≤ c0_3) (h : ferryref04_hostPage.f l0_0 l0_1 a0_2 l0_3 a1 = some r) :
    Calls Try.prog 71 #[.agg #[.slice A0_0 l0_0.length c0_0, .slice A0_1 l0_1.length c0_1, .int .u64 a0_2, .slice A0_3 l0_3.length c0_3], .int .u32 a1] w fun e w' => e = .returned (.int .u64 r) ∧ Below w.heap.size w w' := by
  have hu29 := Try.underlying29
  have HR0_0 := Aside0.mk hr0_0
  have HC0_0 := Aside0.mk hc0_0
  clear hr0_0 hc0_0
  have HR0_1 := Aside0.mk hr0_1
  have HC0_1 := Aside0.mk hc0_1
  clear hr0_1 hc0_1
  have HR0_3 := Aside0.mk hr0_3
  have HC0_3 := Aside0.mk hc0_3
  clear hr0_3 hc0_3
  have HB := Aside0.mk (Below.refl w.heap.size w)
  have H : (some (IntKind.u64.wrap ((IntKind.u64.wrap (Int.tdiv a0_2 16384)) + (IntKind.u64.wrap (Int.tdiv (IntKind.u64.wrap (a1)) 4))))) = some r := h
  clear h
  obtain rfl := Option.some.inj H
  go_enter Try.func71, Try.ntmps71
  go_wp2_with (first | ((with_reducible refine gate_dst (N := 2) rfl ?_); refine bE_ 2 #[.slice A0_0 l0_0.length c0_0, .slice A0_1 l0_1.length c0_1, .int .u64 a0_2, .slice A0_3 l0_3.length c0_3] 29 ?_; intro gb189 hg w3 hbox hb; have BK189 := Aside0.mk hbox; have GW189 := geT_ w.heap.size hg; have GE189 := geT_ w.heap.size hg; replace HB := hB_ hb; clear hb hbox hg; obtain ⟨hcz4_0, hcz4_1, hcz4_2, hcz4_3, hfz4_0, hfz4_1, hfz4_2, hfz4_3⟩ := b4_ BK189.out))
  go_ret
  exact ⟨r3_, beT_⟩

end Go.Proofs.Ytgkjdpdmmlalcaa.F
end
section
namespace Go.Proofs.Ytgkjdpdmmlalcaa.F
open Go.RowKit Go.Proofs.YtgkjdpdmmlalcaaW.PrintWords Go.Proofs.YtgkjdpdmmlalcaaW.PrintLast Go.Proofs.YtgkjdpdmmlalcaaW.PrintMore
attribute [local go_sem] max2_int min2_int max_two min_two max_three min_three max_four min_four
set_option linter.unusedVariables false
set_option linter.unusedSimpArgs false

mutual
def ferryref04_with.l0 : Nat → List (S41) → Int → Int → Int → List (S41) → Bool → Int → Option ((List (S41)))
  | 0, _, _, _, _, _, _, _ => none
  | k + 1, x0, x1, x2, x3, x9, x10, x11 => if x11 ≤ (x0.length : Int) then (if x10 = true then (ferryref04_with.j1 k x0 x1 x2 x3 x9 x10 x11 false) else (if x11 = (x0.length : Int) then (ferryref04_with.j1 k x0 x1 x2 x3 x9 x10 x11 true) else (if 0 ≤ x11 then (if x11 < (x0.length : Int) then (ferryref04_with.j1 k x0 x1 x2 x3 x9 x10 x11 (decide (((rd_T41 x0 x11).f0) > x1))) else (none)) else (none)))) else (some x9)
def ferryref04_with.j1 : Nat → List (S41) → Int → Int → Int → List (S41) → Bool → Int → Bool → Option ((List (S41)))
  | 0, _, _, _, _, _, _, _, _ => none
  | k + 1, x0, x1, x2, x3, x9, x10, x11, x35 => if x35 = true then (ferryref04_with.l1 k x0 x1 x2 x3 x9 x11 0) else (if x11 < (x0.length : Int) then (if 0 ≤ x11 then (if x9.length < 8796093022208 then (ferryref04_with.l0 k x0 x1 x2 x3 (x9 ++ [(⟨(rd_T41 x0 x11).f0, (rd_T41 x0 x11).f1⟩ : S41)]) x10 (wrap64 (x11 + 1))) else (none)) else (none)) else (ferryref04_with.l0 k x0 x1 x2 x3 x9 x10 (wrap64 (x11 + 1))))
def ferryref04_with.l1 : Nat → List (S41) → Int → Int → Int → List (S41) → Int → Int → Option ((List (S41)))
  | 0, _, _, _, _, _, _, _ => none
  | k + 1, x0, x1, x2, x3, x9, x11, x12 => if x12 < x2 then (if x9.length < 8796093022208 then (ferryref04_with.l1 k x0 x1 x2 x3 (x9 ++ [(⟨(x1 + x12) % 4294967296, x3⟩ : S41)]) x11 ((x12 + 1) % 4294967296)) else (none)) else (if x11 < (x0.length : Int) then (if 0 ≤ x11 then (if x9.length < 8796093022208 then (ferryref04_with.l0 k x0 x1 x2 x3 (x9 ++ [(⟨(rd_T41 x0 x11).f0, (rd_T41 x0 x11).f1⟩ : S41)]) true (wrap64 (x11 + 1))) else (none)) else (none)) else (ferryref04_with.l0 k x0 x1 x2 x3 x9 true (wrap64 (x11 + 1))))
end
def ferryref04_with.f (k : Nat) (l0 : List (S41)) (a1 : Int) (a2 : Int) (a3 : Int) : Option ((List (S41))) := ferryref04_with.l0 k l0 a1 a2 a3 ([] : List (S41)) false 0
set_option maxHeartbeats 8000000 in
set_option maxRecDepth 100000 in
theorem ferryref04_with.calls (k : Nat) (A0 : Option Addr) (c0 : Nat) (l0 : List (S41)) (a1 : Int) (a2 : Int) (a3 : Int) (r : List (S41)) (w : World) (hr0 : Kd.C k41 w A0 l0.length l0) (hc0 : l0.length ≤ c0) (h : ferryref04_with.f k l0 a1 a2 a3 = some r) :
    Calls Try.prog 74 #[.slice A0 l0.length c0, .int .u32 a1, .int .u32 a2, .int .i64 a3] w fun e w' => ∃ v0_ : Value, e = .returned (v0_) ∧ Kd.R k41 41 w' w.heap.size (fun _ => True) v0_ r ∧ Below w.heap.size w w' := by
  have hu41 := Try.underlying41
  have HR0 := Aside0.mk hr0
  have HC0 := Aside0.mk hc0
  clear hr0 hc0
  have HB := Aside0.mk (Below.refl w.heap.size w)
  have H : (ferryref04_with.l0 k l0 a1 a2 a3 ([] : List (S41)) false 0) = some r := h
  clear h
  have H' := Aside0.mk H
  clear H
  go_enter Try.func74, Try.ntmps74
  go_wp2
  go_loopg [9, 10, 11] k (fun kq v9 v10 v11 w' => ∃ (x9_1 : List (S41)) (x10_1 : Bool) (x11_1 : Int), v10 = .bool x10_1 ∧ v11 = .int .i64 x11_1 ∧ Aside0 (ferryref04_with.l0 kq l0 a1 a2 a3 x9_1 x10_1 x11_1 = some r) ∧ Aside0 (kq ≤ k) ∧ Aside0 (Kd.R k41 41 w' w.heap.size (fun _ => True) v9 x9_1) ∧ Aside0 (Below w.heap.size w w'))
  case atStart => exact ⟨(([] : List (S41))), (false), (0), r1_, r1_, H', ⟨Nat.le_refl _⟩, ⟨by exact Kd.R_nil _ _ _ _ _⟩, ⟨beT_⟩⟩
  case round =>
    clear H'
    obtain ⟨x9_1, x10_1, x11_1, rfl, rfl, HA, HK1, HO_9, HB⟩ := hrel
    cases gk with
    | zero => exact absurd HA.out (by simp [ferryref04_with.l0])
    | succ k1 =>
      have H := HA.out
      clear HA
      simp only [ferryref04_with.l0] at H
      by_cases c5 : x11_1 ≤ (l0.length : Int)
      · rw [if_pos c5] at H
        have c5b0 : decide (x11_1 ≤ (l0.length : Int)) = true := decide_eq_true c5
        clear c5
        have HC6 := Aside0.mk H
        clear H
        go_upto_region 6 with (fail)
        go_cut [35] (fun v35 wc => ∃ (kq : Nat) (x35_5 : Bool), v35 = .bool x35_5 ∧ Aside0 (ferryref04_with.j1 kq l0 a1 a2 a3 x9_1 x10_1 x11_1 x35_5 = some r) ∧ Aside0 (kq ≤ k1) ∧ Aside0 (Kd.R k41 41 wc w.heap.size (fun _ => True) u9 x9_1) ∧ Aside0 (Below w.heap.size w wc))
        case first =>
          have H := HC6.out
          clear HC6
          by_cases c7 : x10_1 = true
          · subst c7
            replace H := hP_ H
            have H' := Aside0.mk H
            clear H
            go_wp2
            go_meet
            case rel => exact ⟨_, (false), r1_, H', ⟨by have := HK1.out; omega⟩, ⟨rT_ HO_9.out⟩, ⟨beT_⟩⟩
          replace c7 := Bool.eq_false_iff.mpr c7
          subst c7
          replace H := hN_ H
          by_cases c8 : x11_1 = (l0.length : Int)
          · rw [if_pos c8] at H
            have c8b0 : (x11_1 == (l0.length : Int)) = true := beq_iff_eq.mpr c8
            have c8b1 : (x11_1 != (l0.length : Int)) = false := bne_eq_false_iff_eq.mpr c8
            clear c8
            (skip)
            have H' := Aside0.mk H
            clear H
            go_wp2
            go_meet
            case rel => exact ⟨_, (true), r1_, H', ⟨by have := HK1.out; omega⟩, ⟨rT_ HO_9.out⟩, ⟨beT_⟩⟩
          rw [if_neg c8] at H
          have c8b0 : (x11_1 == (l0.length : Int)) = false := beq_eq_false_iff_ne.mpr c8
          have c8b1 : (x11_1 != (l0.length : Int)) = true := bne_iff_ne.mpr c8
          (skip)
          by_cases c9 : 0 ≤ x11_1
          · rw [if_pos c9] at H
            have c9b0 : decide (0 ≤ x11_1) = true := decide_eq_true c9
            clear c9
            by_cases c10 : x11_1 < (l0.length : Int)
            · rw [if_pos c10] at H
              have c10b0 : decide (x11_1 < (l0.length : Int)) = true := decide_eq_true c10
              clear c10
              have H' := Aside0.mk H
              clear H
              have p214 : 0 ≤ (x11_1 : Int) := dT_
              have q214 : x11_1 < (l0.length : Int) := dT_
              obtain ⟨ad214, e214, hx214_0, hx214_1⟩ := at_T41 HR0.out x11_1 p214 q214
              cases e214
              replace hx214_0 := hX_ hx214_0
              replace hx214_1 := hX_ hx214_1
              replace p214 := eq_true p214
              replace q214 := eq_true q214
              go_wp2
              go_meet
              case rel => exact ⟨_, (decide (((rd_T41 l0 x11_1).f0) > a1)), r1_, H', ⟨by have := HK1.out; omega⟩, ⟨rT_ HO_9.out⟩, ⟨beT_⟩⟩
            rw [if_neg c10] at H
            exact absurd H (by simp)
          rw [if_neg c9] at H
          exact absurd H (by simp)
        case rest =>
          clear HC6
          try clear c5b0
          obtain ⟨kq, x35_5, rfl, HA, HJ5, HO_9, HB⟩ := hcut
          cases kq with
          | zero => exact absurd HA.out (by simp [ferryref04_with.j1])
          | succ kj5 =>
            have H := HA.out
            clear HA
            simp only [ferryref04_with.j1] at H
            by_cases c11 : x35_5 = true
            · subst c11
              replace H := hP_ H
              have H' := Aside0.mk H
              clear H
              go_wp2
              go_loopg [9, 12] kj5 (fun kq v9 v12 w' => ∃ (x9_3 : List (S41)) (x12_3 : Int), v12 = .int .u32 x12_3 ∧ Aside0 (ferryref04_with.l1 kq l0 a1 a2 a3 x9_3 x11_1 x12_3 = some r) ∧ Aside0 (kq ≤ kj5) ∧ Aside0 (Kd.R k41 41 w' w.heap.size (fun _ => True) v9 x9_3) ∧ Aside0 (Below w.heap.size w w'))
              case atStart => exact ⟨(x9_1), (0), r1_, H', ⟨Nat.le_refl _⟩, ⟨rT_ HO_9.out⟩, ⟨beT_⟩⟩
              case round =>
                clear H'
                obtain ⟨x9_3, x12_3, rfl, HA, HK3, HO_9, HB⟩ := hrel
                cases gk with
                | zero => exact absurd HA.out (by simp [ferryref04_with.l1])
                | succ k3 =>
                  have H := HA.out
                  clear HA
                  simp only [ferryref04_with.l1] at H
                  by_cases c12 : x12_3 < a2
                  · rw [if_pos c12] at H
                    have c12b0 : decide (x12_3 < a2) = true := decide_eq_true c12
                    clear c12
                    by_cases c13 : x9_3.length < 8796093022208
                    · rw [if_pos c13] at H
                      have LMc13 := Aside0.mk c13
                      clear c13
                      obtain ⟨y215, hy215⟩ : ∃ y_ : List (S41), y_ = (x9_3 ++ [(⟨(a1 + x12_3) % 4294967296, a3⟩ : S41)]) := ⟨_, rfl⟩
                      replace H : (ferryref04_with.l1 k3 l0 a1 a2 a3 y215 x11_1 ((x12_3 + 1) % 4294967296)) = some r := by (rw [hy215]; with_reducible exact H)
                      have Ny215 := Aside0.mk hy215
                      clear hy215
                      have H' := Aside0.mk H
                      clear H
                      go_wp2_with (((with_reducible refine gate_builtin (b := .append) (xs := #[.tmp 41, .tmp 47]) rfl ?_); (try (refine gate_guard (by rfl) ?_; dsimp only)); at_builtin; refine Kd.R_append k41 (w0 := w) w.heap.size rfl (.tmp 41) (.tmp 47) 27 41 (.agg #[(.int .u32 0), (.int .i64 0)]) 16 rfl Try.underlying27 info41 rfl (by decide) (by omega) u9 x9_3 (⟨(a1 + x12_3) % 4294967296, a3⟩ : S41) [.int .u32 ((a1 + x12_3) % 4294967296), .int .i64 a3] (fun _ => True) (fun _ => False) rfl rfl ?aP (fun _ hk => hk.elim) ?aF ?aO ?aB ?aS ?aL ?_; (case aP => exact k41_mkM _ _ _ (⟨(a1 + x12_3) % 4294967296, a3⟩ : S41)); (case aB => exact beT_); (case aF => exact (fun _ _ => trivial)); (case aO => exact (rT_ HO_9.out)); (case aS => exact (below_size beT_)); (case aL => have := LMc13.out; omega); intro v216 w14 ho hb hg hat; rw [← Ny215.out] at ho; have HO217 := Aside0.mk ho; replace HB := Aside0.mk hb; clear HO_9; clear ho hb hg hat))
                      go_roundg k3
                      case measure => have := HK1.out; have := HJ5.out; have := HK3.out; omega
                      case rel => exact ⟨(y215), ((x12_3 + 1) % 4294967296), r1_, H', ⟨by have := HK1.out; have := HJ5.out; have := HK3.out; omega⟩, ⟨rT_ HO217.out⟩, ⟨beT_⟩⟩
                    rw [if_neg c13] at H
                    exact absurd H (by simp)
                  rw [if_neg c12] at H
                  have c12b0 : decide (x12_3 < a2) = false := decide_eq_false c12
                  clear c12
                  by_cases c15 : x11_1 < (l0.length : Int)
                  · rw [if_pos c15] at H
                    have c15b0 : decide (x11_1 < (l0.length : Int)) = true := decide_eq_true c15
                    clear c15
                    by_cases c16 : 0 ≤ x11_1
                    · rw [if_pos c16] at H
                      have c16b0 : decide (0 ≤ x11_1) = true := decide_eq_true c16
                      clear c16
                      by_cases c17 : x9_3.length < 8796093022208
                      · rw [if_pos c17] at H
                        have LMc17 := Aside0.mk c17
                        clear c17
                        obtain ⟨y219, hy219⟩ : ∃ y_ : List (S41), y_ = (x9_3 ++ [(⟨(rd_T41 l0 x11_1).f0, (rd_T41 l0 x11_1).f1⟩ : S41)]) := ⟨_, rfl⟩
                        replace H : (ferryref04_with.l0 k3 l0 a1 a2 a3 y219 true (wrap64 (x11_1 + 1))) = some r := by (rw [hy219]; with_reducible exact H)
                        have Ny219 := Aside0.mk hy219
                        clear hy219
                        have H' := Aside0.mk H
                        clear H
                        have p218 : 0 ≤ (x11_1 : Int) := dT_
                        have q218 : x11_1 < (l0.length : Int) := dT_
                        obtain ⟨ad218, e218, hx218_0, hx218_1⟩ := at_T41 HR0.out x11_1 p218 q218
                        cases e218
                        replace hx218_0 := hX_ hx218_0
                        replace hx218_1 := hX_ hx218_1
                        replace p218 := eq_true p218
                        replace q218 := eq_true q218
                        go_wp2_with (((with_reducible refine gate_builtin (b := .append) (xs := #[.tmp 53, .tmp 58]) rfl ?_); (try (refine gate_guard (by rfl) ?_; dsimp only)); at_builtin; refine Kd.R_append k41 (w0 := w) w.heap.size rfl (.tmp 53) (.tmp 58) 27 41 (.agg #[(.int .u32 0), (.int .i64 0)]) 16 rfl Try.underlying27 info41 rfl (by decide) (by omega) u9 x9_3 (⟨(rd_T41 l0 x11_1).f0, (rd_T41 l0 x11_1).f1⟩ : S41) [.int .u32 ((rd_T41 l0 x11_1).f0), .int .i64 ((rd_T41 l0 x11_1).f1)] (fun _ => True) (fun _ => False) rfl rfl ?aP (fun _ hk => hk.elim) ?aF ?aO ?aB ?aS ?aL ?_; (case aP => exact k41_mkM _ _ _ (⟨(rd_T41 l0 x11_1).f0, (rd_T41 l0 x11_1).f1⟩ : S41)); (case aB => exact beT_); (case aF => exact (fun _ _ => trivial)); (case aO => exact (rT_ HO_9.out)); (case aS => exact (below_size beT_)); (case aL => have := LMc17.out; omega); intro v220 w18 ho hb hg hat; rw [← Ny219.out] at ho; have HO221 := Aside0.mk ho; replace HB := Aside0.mk hb; clear HO_9; clear ho hb hg hat))
                        go_roundg k3
                        case measure => have := HK1.out; have := HJ5.out; have := HK3.out; omega
                        case rel => exact ⟨(y219), (true), (wrap64 (x11_1 + 1)), r1_, r1_, H', ⟨by have := HK1.out; have := HJ5.out; have := HK3.out; omega⟩, ⟨rT_ HO221.out⟩, ⟨beT_⟩⟩
                      rw [if_neg c17] at H
                      exact absurd H (by simp)
                    rw [if_neg c16] at H
                    exact absurd H (by simp)
                  rw [if_neg c15] at H
                  have c15b0 : decide (x11_1 < (l0.length : Int)) = false := decide_eq_false c15
                  clear c15
                  have H' := Aside0.mk H
                  clear H
                  go_wp2
                  go_roundg k3
                  case measure => have := HK1.out; have := HJ5.out; have := HK3.out; omega
                  case rel => exact ⟨(x9_3), (true), (wrap64 (x11_1 + 1)), r1_, r1_, H', ⟨by have := HK1.out; have := HJ5.out; have := HK3.out; omega⟩, ⟨rT_ HO_9.out⟩, ⟨beT_⟩⟩
            replace c11 := Bool.eq_false_iff.mpr c11
            subst c11
            replace H := hN_ H
            by_cases c19 : x11_1 < (l0.length : Int)
            · rw [if_pos c19] at H
              have c19b0 : decide (x11_1 < (l0.length : Int)) = true := decide_eq_true c19
              clear c19
              by_cases c20 : 0 ≤ x11_1
              · rw [if_pos c20] at H
                have c20b0 : decide (0 ≤ x11_1) = true := decide_eq_true c20
                clear c20
                by_cases c21 : x9_1.length < 8796093022208
                · rw [if_pos c21] at H
                  have LMc21 := Aside0.mk c21
                  clear c21
                  obtain ⟨y223, hy223⟩ : ∃ y_ : List (S41), y_ = (x9_1 ++ [(⟨(rd_T41 l0 x11_1).f0, (rd_T41 l0 x11_1).f1⟩ : S41)]) := ⟨_, rfl⟩
                  replace H : (ferryref04_with.l0 kj5 l0 a1 a2 a3 y223 x10_1 (wrap64 (x11_1 + 1))) = some r := by (rw [hy223]; with_reducible exact H)
                  have Ny223 := Aside0.mk hy223
                  clear hy223
                  have H' := Aside0.mk H
                  clear H
                  have p222 : 0 ≤ (x11_1 : Int) := dT_
                  have q222 : x11_1 < (l0.length : Int) := dT_
                  obtain ⟨ad222, e222, hx222_0, hx222_1⟩ := at_T41 HR0.out x11_1 p222 q222
                  cases e222
                  replace hx222_0 := hX_ hx222_0
                  replace hx222_1 := hX_ hx222_1
                  replace p222 := eq_true p222
                  replace q222 := eq_true q222
                  go_wp2_with (((with_reducible refine gate_builtin (b := .append) (xs := #[.tmp 53, .tmp 58]) rfl ?_); (try (refine gate_guard (by rfl) ?_; dsimp only)); at_builtin; refine Kd.R_append k41 (w0 := w) w.heap.size rfl (.tmp 53) (.tmp 58) 27 41 (.agg #[(.int .u32 0), (.int .i64 0)]) 16 rfl Try.underlying27 info41 rfl (by decide) (by omega) u9 x9_1 (⟨(rd_T41 l0 x11_1).f0, (rd_T41 l0 x11_1).f1⟩ : S41) [.int .u32 ((rd_T41 l0 x11_1).f0), .int .i64 ((rd_T41 l0 x11_1).f1)] (fun _ => True) (fun _ => False) rfl rfl ?aP (fun _ hk => hk.elim) ?aF ?aO ?aB ?aS ?aL ?_; (case aP => exact k41_mkM _ _ _ (⟨(rd_T41 l0 x11_1).f0, (rd_T41 l0 x11_1).f1⟩ : S41)); (case aB => exact beT_); (case aF => exact (fun _ _ => trivial)); (case aO => exact (rT_ HO_9.out)); (case aS => exact (below_size beT_)); (case aL => have := LMc21.out; omega); intro v224 w22 ho hb hg hat; rw [← Ny223.out] at ho; have HO225 := Aside0.mk ho; replace HB := Aside0.mk hb; clear HO_9; clear ho hb hg hat))
                  go_roundg kj5
                  case measure => have := HK1.out; have := HJ5.out; omega
                  case rel => exact ⟨(y223), (x10_1), (wrap64 (x11_1 + 1)), r1_, r1_, H', ⟨by have := HK1.out; have := HJ5.out; omega⟩, ⟨rT_ HO225.out⟩, ⟨beT_⟩⟩
                rw [if_neg c21] at H
                exact absurd H (by simp)
              rw [if_neg c20] at H
              exact absurd H (by simp)
            rw [if_neg c19] at H
            have c19b0 : decide (x11_1 < (l0.length : Int)) = false := decide_eq_false c19
            clear c19
            have H' := Aside0.mk H
            clear H
            go_wp2
            go_roundg kj5
            case measure => have := HK1.out; have := HJ5.out; omega
            case rel => exact ⟨(x9_1), (x10_1), (wrap64 (x11_1 + 1)), r1_, r1_, H', ⟨by have := HK1.out; have := HJ5.out; omega⟩, ⟨rT_ HO_9.out⟩, ⟨beT_⟩⟩
      rw [if_neg c5] at H
      have c5b0 : decide (x11_1 ≤ (l0.length : Int)) = false := decide_eq_false c5
      clear c5
      obtain rfl := Option.some.inj H
      go_wp2
      go_ret
      exact ⟨_, r3_, (rT_ HO_9.out), beT_⟩

end Go.Proofs.Ytgkjdpdmmlalcaa.F
end
