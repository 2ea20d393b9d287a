import Derived.Test.YtgkjdpdmmlalcaaVZF0
import Derived.Test.YtgkjdpdmmlalcaaVA0
import Derived.Test.YtgkjdpdmmlalcaaVA2
import Derived.Test.YtgkjdpdmmlalcaaVA4
import Derived.Test.YtgkjdpdmmlalcaaVA6
import Derived.Test.YtgkjdpdmmlalcaaVA8
import Derived.Test.YtgkjdpdmmlalcaaVA11HHost6
import Derived.Test.YtgkjdpdmmlalcaaVA12
import Derived.Test.YtgkjdpdmmlalcaaVA16
import Derived.Test.YtgkjdpdmmlalcaaVA18
import Derived.Test.YtgkjdpdmmlalcaaVA25FFerrylaw05Awake
import Derived.Test.YtgkjdpdmmlalcaaVA26
import Derived.Test.YtgkjdpdmmlalcaaVA27HGmem3
section
namespace Go.Proofs.Ytgkjdpdmmlalcaa.F
open Go.RowKit Go.Proofs.YtgkjdpdmmlalcaaW.PrintWords Go.Proofs.YtgkjdpdmmlalcaaW.PrintLast Go.Proofs.YtgkjdpdmmlalcaaW.PrintMore
attribute [local go_sem] max2_int min2_int max_two min_two max_three min_three max_four min_four
attribute [local go_sem] cell_twice
set_option linter.unusedVariables false
set_option linter.unusedSimpArgs false

attribute [local go_sem high] eqA34
def ferrylaw05_GmemReads.j0 : Nat → Int → Int → Int → Int → Bool → List (S83) → List (S88) → Int → List (S41) → Option (Bool)
  | 0, _, _, _, _, _, _, _, _, _ => none
  | k + 1, x1, x2, x3, x4, x39, x675000, x675001, x675002, x675003 => if x39 = true then ((ferrylaw05_awake.f k).bind fun t676 => (some t676)) else ((gmem_Bytes.f x675000 x675001 x675002 x675003 x1 x2).bind fun bt677 => ((ferryref05_Bytes.f k x675000 x675001 x675002 x675003 x1 x2).bind fun bt681 => ((gmem_Load.f x675000 x675001 x675002 x675003 x1 x3).bind fun bt685 => ((ferryref05_Load.f k x675000 x675001 x675002 x675003 x1 x3).bind fun bt689 => ((gmem_Fetch.f x675000 x675001 x675002 x675003 x1).bind fun bt693 => ((ferryref05_Fetch.f k x675000 x675001 x675002 x675003 x1).bind fun bt697 => ((gmem_Text.f x675000 x675001 x675002 x675003 x1 x4).bind fun bt701 => ((ferryref05_Text.f k x675000 x675001 x675002 x675003 x1 x4).bind fun bt706 => (if bt677.1.toList = bt681.1.toList then (if (bt677.2.1 == bt681.2.1 && (bt677.2.2 == bt681.2.2)) = true then (if bt685.1 = bt689.1 then (if (bt685.2.1 == bt689.2.1 && (bt685.2.2 == bt689.2.2)) = true then (if bt693.1 = bt697.1 then (if (bt693.2.1 == bt697.2.1 && (bt693.2.2 == bt697.2.2)) = true then (if bt701.1.toList = bt706.1.toList then (if (bt701.2.1 == bt706.2.1 && (bt701.2.2.1 == bt706.2.2.1)) = true then (if bt701.2.2.2 = bt706.2.2.2 then ((ferrylaw05_awake.f k).bind fun t711 => (some t711)) else (none)) else (none)) else (none)) else (none)) else (none)) else (none)) else (none)) else (none)) else (none))))))))))
def ferrylaw05_GmemReads.f (k : Nat) (l0_0 : List (S83)) (l0_1 : List (S88)) (a0_2 : Int) (l0_3 : List (S41)) (a1 : Int) (a2 : Int) (a3 : Int) (a4 : Int) : Option (Bool) := (ferrylaw05_few.f k l0_0 l0_1 a0_2 l0_3).bind fun t675 => (if t675 = true then (if a2 > 5000 then (ferrylaw05_GmemReads.j0 k a1 a2 a3 a4 (decide (a2 ≤ 65536)) l0_0 l0_1 a0_2 l0_3) else (ferrylaw05_GmemReads.j0 k a1 a2 a3 a4 false l0_0 l0_1 a0_2 l0_3)) else (ferrylaw05_GmemReads.j0 k a1 a2 a3 a4 true l0_0 l0_1 a0_2 l0_3))
set_option maxHeartbeats 8000000 in
set_option maxRecDepth 100000 in
theorem ferrylaw05_GmemReads.calls (k : Nat) (A0_0 : Option Addr) (c0_0 : Nat) (l0_0 : List (S83)) (A0_1 : Option Addr) (c0_1 : Nat) (l0_1 : List (S88)) (a0_2 : Int) (A0_3 : Option Addr) (c0_3 : Nat) (l0_3 : List (S41)) (a1 : Int) (a2 : Int) (a3 : Int) (a4 : Int) (r : Bool) (w : World) (hr0_0 : Kd.C k83 w A0_0 l0_0.length l0_0) (hc0_0 : l0_0.length ≤ c0_0) (hr0_1 : Kd.C k88 w A0_1 l0_1.length l0_1) (hc0_1 : l0_1.length ≤ c0_1) (hr0_3 : Kd.C k41 w A0_3 l0_3.length l0_3) (hc0_3 : l0_3.length ≤ c0_3) (h : ferrylaw05_GmemReads.f k l0_0 l0_1 a0_2 l0_3 a1 a2 a3 a4 = some r) :
    Calls Try.prog 6 #[.agg #[.slice A0_0 l0_0.length c0_0, .slice A0_1 l0_1.length c0_1, .int .u64 a0_2, .slice A0_3 l0_3.length c0_3], .int .u32 a1, .int .u32 a2, .int .i64 a3, .int .i64 a4] w fun e w' => e = .returned (.bool r) ∧ Below w.heap.size w w' := by
  have hu29 := Try.underlying29
  have hu34 := Try.underlying34
  have HR0_0 := Aside0.mk hr0_0
  have HC0_0 := Aside0.mk hc0_0
  clear hr0_0 hc0_0
  have HR0_1 := Aside0.mk hr0_1
  have HC0_1 := Aside0.mk hc0_1
  clear hr0_1 hc0_1
  have HR0_3 := Aside0.mk hr0_3
  have HC0_3 := Aside0.mk hc0_3
  clear hr0_3 hc0_3
  have HB := Aside0.mk (Below.refl w.heap.size w)
  have H : ((ferrylaw05_few.f k l0_0 l0_1 a0_2 l0_3).bind fun t675 => (if t675 = true then (if a2 > 5000 then (ferrylaw05_GmemReads.j0 k a1 a2 a3 a4 (decide (a2 ≤ 65536)) l0_0 l0_1 a0_2 l0_3) else (ferrylaw05_GmemReads.j0 k a1 a2 a3 a4 false l0_0 l0_1 a0_2 l0_3)) else (ferrylaw05_GmemReads.j0 k a1 a2 a3 a4 true l0_0 l0_1 a0_2 l0_3))) = some r := h
  clear h
  have HC6 := Aside0.mk H
  clear H
  go_enter Try.func6, Try.ntmps6
  go_upto_region 1 with (first | ((with_reducible refine gate_dst (N := 5) rfl ?_); refine bE_ 5 #[.slice A0_0 l0_0.length c0_0, .slice A0_1 l0_1.length c0_1, .int .u64 a0_2, .slice A0_3 l0_3.length c0_3] 29 ?_; intro gb674 hg w7 hbox hb; have BK674 := Aside0.mk hbox; have GW674 := geT_ w.heap.size hg; have GE674 := geT_ w.heap.size hg; replace HB := hB_ hb; clear hb hbox hg))
  (try simp only [Act.put, List.setIfInBounds_toArray, List.set_cons_zero, List.set_cons_succ])
  go_cut [39] (fun v39 wc => ∃ (kq : Nat) (x39_5 : Bool), v39 = .bool x39_5 ∧ Aside0 (ferrylaw05_GmemReads.j0 kq a1 a2 a3 a4 x39_5 l0_0 l0_1 a0_2 l0_3 = some r) ∧ Aside0 (kq ≤ k) ∧ Aside0 (wc.heap[gb674]? = some (.cells #[(.slice A0_0 l0_0.length c0_0), (.slice A0_1 l0_1.length c0_1), .int .u64 a0_2, (.slice A0_3 l0_3.length c0_3)] 29 (0, 0))) ∧ Aside0 (Below w.heap.size w wc))
  case first =>
    have H := HC6.out
    clear HC6
    replace H := Option.bind_eq_some_iff.mp H
    obtain ⟨t675, A80, H⟩ := H
    have A8 := Aside0.mk A80
    clear A80
    by_cases c9 : t675 = true
    · subst c9
      replace H := hP_ H
      by_cases c10 : a2 > 5000
      · rw [if_pos c10] at H
        have c10b0 : decide (5000 < a2) = true := decide_eq_true c10
        clear c10
        (first | rw [c10b0] | (simp only [i64_w, i32_w]; rw [c10b0]) | skip)
        have H' := Aside0.mk H
        clear H
        obtain ⟨hcz11_0, hcz11_1, hcz11_2, hcz11_3, hfz11_0, hfz11_1, hfz11_2, hfz11_3⟩ := b4_ BK674.out
        go_wp2_with (first | ((with_reducible refine gate_callee (f := 9) rfl ?_); refine gL_ (some 30) Try.func9 #[.agg #[.slice A0_0 l0_0.length c0_0, .slice A0_1 l0_1.length c0_1, .int .u64 a0_2, .slice A0_3 l0_3.length c0_3]] ?_; (with_reducible refine (ferrylaw05_few.calls k _ _ l0_0 _ _ l0_1 a0_2 _ _ l0_3 true _ ?side1 ?side2 ?side3 ?side4 ?side5 ?side6 A8.out).mono ?_); (case side1 => exact cT_ (Kd.C_below HR0_0.out HB.out)); (case side2 => exact HC0_0.out); (case side3 => exact cT_ (Kd.C_below HR0_1.out HB.out)); (case side4 => exact HC0_1.out); (case side5 => exact cT_ (Kd.C_below HR0_3.out HB.out)); (case side6 => exact HC0_3.out); rintro e w12 ⟨rfl, hb⟩; refine ⟨_, rfl, ?_⟩; replace BK674 := kB_ BK674 hb; replace HB := hB_ hb; (try clear hb); (try clear hb2); (try clear hk); (try clear hi)))
        go_meet
        case rel => exact ⟨_, (decide (a2 ≤ 65536)), r1_, H', ⟨r2_⟩, ⟨bT_ BK674.out⟩, ⟨beT_⟩⟩
      rw [if_neg c10] at H
      have c10b0 : decide (5000 < a2) = false := decide_eq_false c10
      clear c10
      (first | rw [c10b0] | (simp only [i64_w, i32_w]; rw [c10b0]) | skip)
      have H' := Aside0.mk H
      clear H
      obtain ⟨hcz13_0, hcz13_1, hcz13_2, hcz13_3, hfz13_0, hfz13_1, hfz13_2, hfz13_3⟩ := b4_ BK674.out
      go_wp2_with (first | ((with_reducible refine gate_callee (f := 9) rfl ?_); refine gL_ (some 30) Try.func9 #[.agg #[.slice A0_0 l0_0.length c0_0, .slice A0_1 l0_1.length c0_1, .int .u64 a0_2, .slice A0_3 l0_3.length c0_3]] ?_; (with_reducible refine (ferrylaw05_few.calls k _ _ l0_0 _ _ l0_1 a0_2 _ _ l0_3 true _ ?side1 ?side2 ?side3 ?side4 ?side5 ?side6 A8.out).mono ?_); (case side1 => exact cT_ (Kd.C_below HR0_0.out HB.out)); (case side2 => exact HC0_0.out); (case side3 => exact cT_ (Kd.C_below HR0_1.out HB.out)); (case side4 => exact HC0_1.out); (case side5 => exact cT_ (Kd.C_below HR0_3.out HB.out)); (case side6 => exact HC0_3.out); rintro e w14 ⟨rfl, hb⟩; refine ⟨_, rfl, ?_⟩; replace BK674 := kB_ BK674 hb; replace HB := hB_ hb; (try clear hb); (try clear hb2); (try clear hk); (try clear hi)))
      go_meet
      case rel => exact ⟨_, (false), r1_, H', ⟨r2_⟩, ⟨bT_ BK674.out⟩, ⟨beT_⟩⟩
    replace c9 := Bool.eq_false_iff.mpr c9
    subst c9
    replace H := hN_ H
    have H' := Aside0.mk H
    clear H
    obtain ⟨hcz15_0, hcz15_1, hcz15_2, hcz15_3, hfz15_0, hfz15_1, hfz15_2, hfz15_3⟩ := b4_ BK674.out
    go_wp2_with (first | ((with_reducible refine gate_callee (f := 9) rfl ?_); refine gL_ (some 30) Try.func9 #[.agg #[.slice A0_0 l0_0.length c0_0, .slice A0_1 l0_1.length c0_1, .int .u64 a0_2, .slice A0_3 l0_3.length c0_3]] ?_; (with_reducible refine (ferrylaw05_few.calls k _ _ l0_0 _ _ l0_1 a0_2 _ _ l0_3 false _ ?side1 ?side2 ?side3 ?side4 ?side5 ?side6 A8.out).mono ?_); (case side1 => exact cT_ (Kd.C_below HR0_0.out HB.out)); (case side2 => exact HC0_0.out); (case side3 => exact cT_ (Kd.C_below HR0_1.out HB.out)); (case side4 => exact HC0_1.out); (case side5 => exact cT_ (Kd.C_below HR0_3.out HB.out)); (case side6 => exact HC0_3.out); rintro e w16 ⟨rfl, hb⟩; refine ⟨_, rfl, ?_⟩; replace BK674 := kB_ BK674 hb; replace HB := hB_ hb; (try clear hb); (try clear hb2); (try clear hk); (try clear hi)))
    go_meet
    case rel => exact ⟨_, (true), r1_, H', ⟨r2_⟩, ⟨bT_ BK674.out⟩, ⟨beT_⟩⟩
  case rest =>
    clear HC6
    try clear c1
    try clear p2
    try clear c6
    try clear c9
    try clear c10
    try clear c10b0
    try clear hcz11_0
    try clear hcz11_1
    try clear hcz11_2
    try clear hcz11_3
    try clear hcz13_0
    try clear hcz13_1
    try clear hcz13_2
    try clear hcz13_3
    try clear hcz15_0
    try clear hcz15_1
    try clear hcz15_2
    try clear hcz15_3
    try clear hfz11_0
    try clear hfz11_1
    try clear hfz11_2
    try clear hfz11_3
    try clear hfz13_0
    try clear hfz13_1
    try clear hfz13_2
    try clear hfz13_3
    try clear hfz15_0
    try clear hfz15_1
    try clear hfz15_2
    try clear hfz15_3
    obtain ⟨kq, x39_5, rfl, HA, HJ5, BK674, HB⟩ := hcut
    cases kq with
    | zero => exact absurd HA.out (by simp [ferrylaw05_GmemReads.j0])
    | succ kj5 =>
      have H := HA.out
      clear HA
      simp only [ferrylaw05_GmemReads.j0] at H
      by_cases c17 : x39_5 = true
      · subst c17
        replace H := hP_ H
        replace H := Option.bind_eq_some_iff.mp H
        obtain ⟨t676, A180, H⟩ := H
        have A18 := Aside0.mk A180
        clear A180
        obtain rfl := Option.some.inj H
        go_wp2_with (first | ((with_reducible refine gate_callee (f := 10) rfl ?_); refine gL_ (some 40) Try.func10 #[] ?_; (with_reducible refine (ferrylaw05_awake.calls kj5  t676 _ A18.out).mono ?_); rintro e w19 ⟨rfl, hb⟩; refine ⟨_, rfl, ?_⟩; replace BK674 := kB_ BK674 hb; replace HB := hB_ hb; (try clear hb); (try clear hb2); (try clear hk); (try clear hi)))
        go_ret
        exact ⟨r3_, beT_⟩
      replace c17 := Bool.eq_false_iff.mpr c17
      subst c17
      replace H := hN_ H
      replace H := Option.bind_eq_some_iff.mp H
      obtain ⟨⟨t677, t678, t679⟩, A200, H⟩ := H
      have A20 := Aside0.mk A200
      clear A200
      replace H := Option.bind_eq_some_iff.mp H
      obtain ⟨⟨t681, t682, t683⟩, A210, H⟩ := H
      have A21 := Aside0.mk A210
      clear A210
      replace H := Option.bind_eq_some_iff.mp H
      obtain ⟨⟨t685, t686, t687⟩, A220, H⟩ := H
      have A22 := Aside0.mk A220
      clear A220
      replace H := Option.bind_eq_some_iff.mp H
      obtain ⟨⟨t689, t690, t691⟩, A230, H⟩ := H
      have A23 := Aside0.mk A230
      clear A230
      replace H := Option.bind_eq_some_iff.mp H
      obtain ⟨⟨t693, t694, t695⟩, A240, H⟩ := H
      have A24 := Aside0.mk A240
      clear A240
      replace H := Option.bind_eq_some_iff.mp H
      obtain ⟨⟨t697, t698, t699⟩, A250, H⟩ := H
      have A25 := Aside0.mk A250
      clear A250
      replace H := Option.bind_eq_some_iff.mp H
      obtain ⟨⟨t701, t702, t703, t704⟩, A260, H⟩ := H
      have A26 := Aside0.mk A260
      clear A260
      replace H := Option.bind_eq_some_iff.mp H
      obtain ⟨⟨t706, t707, t708, t709⟩, A270, H⟩ := H
      have A27 := Aside0.mk A270
      clear A270
      by_cases c28 : t677.toList = t681.toList
      · rw [if_pos c28] at H
        have c28b0 : (t677.toList == t681.toList) = true := beq_iff_eq.mpr c28
        have c28b1 : (t677.toList != t681.toList) = false := bne_eq_false_iff_eq.mpr c28
        clear c28
        by_cases c29 : (t678 == t682 && (t679 == t683)) = true
        · rw [if_pos c29] at H
          have c29b0 : (t678 == t682 && (t679 == t683)) = true := c29
          (try (have c29b1 : decide (t678 = t682 && (t679 == t683)) = true := by simpa using c29))
          (try (have c29b2 : (t678 == t682 && (t679 == t683)) = true := by simpa using c29))
          clear c29
          by_cases c30 : t685 = t689
          · rw [if_pos c30] at H
            have c30b0 : (t685 == t689) = true := beq_iff_eq.mpr c30
            have c30b1 : (t685 != t689) = false := bne_eq_false_iff_eq.mpr c30
            clear c30
            by_cases c31 : (t686 == t690 && (t687 == t691)) = true
            · rw [if_pos c31] at H
              have c31b0 : (t686 == t690 && (t687 == t691)) = true := c31
              (try (have c31b1 : decide (t686 = t690 && (t687 == t691)) = true := by simpa using c31))
              (try (have c31b2 : (t686 == t690 && (t687 == t691)) = true := by simpa using c31))
              clear c31
              by_cases c32 : t693 = t697
              · rw [if_pos c32] at H
                have c32b0 : (t693 == t697) = true := beq_iff_eq.mpr c32
                have c32b1 : (t693 != t697) = false := bne_eq_false_iff_eq.mpr c32
                clear c32
                by_cases c33 : (t694 == t698 && (t695 == t699)) = true
                · rw [if_pos c33] at H
                  have c33b0 : (t694 == t698 && (t695 == t699)) = true := c33
                  (try (have c33b1 : decide (t694 = t698 && (t695 == t699)) = true := by simpa using c33))
                  (try (have c33b2 : (t694 == t698 && (t695 == t699)) = true := by simpa using c33))
                  clear c33
                  by_cases c34 : t701.toList = t706.toList
                  · rw [if_pos c34] at H
                    have c34b0 : (t701.toList == t706.toList) = true := beq_iff_eq.mpr c34
                    have c34b1 : (t701.toList != t706.toList) = false := bne_eq_false_iff_eq.mpr c34
                    clear c34
                    by_cases c35 : (t702 == t707 && (t703 == t708)) = true
                    · rw [if_pos c35] at H
                      have c35b0 : (t702 == t707 && (t703 == t708)) = true := c35
                      (try (have c35b1 : decide (t702 = t707 && (t703 == t708)) = true := by simpa using c35))
                      (try (have c35b2 : (t702 == t707 && (t703 == t708)) = true := by simpa using c35))
                      clear c35
                      by_cases c36 : t704 = t709
                      · rw [if_pos c36] at H
                        have c36b0 : (t704 == t709) = true := beq_iff_eq.mpr c36
                        have c36b1 : (t704 != t709) = false := bne_eq_false_iff_eq.mpr c36
                        clear c36
                        replace H := Option.bind_eq_some_iff.mp H
                        obtain ⟨t711, A370, H⟩ := H
                        have A37 := Aside0.mk A370
                        clear A370
                        obtain rfl := Option.some.inj H
                        obtain ⟨hcz38_0, hcz38_1, hcz38_2, hcz38_3, hfz38_0, hfz38_1, hfz38_2, hfz38_3⟩ := b4_ BK674.out
                        go_wp2_with (first | ((with_reducible refine gate_callee (f := 13) rfl ?_); refine gL_ (some 45) Try.func13 #[.agg #[.slice A0_0 l0_0.length c0_0, .slice A0_1 l0_1.length c0_1, .int .u64 a0_2, .slice A0_3 l0_3.length c0_3], .int .u32 a1, .int .u32 a2] ?_; (with_reducible refine (gmem_Bytes.calls _ _ l0_0 _ _ l0_1 a0_2 _ _ l0_3 a1 a2 t677 t678 t679 _ ?side1 ?side2 ?side3 ?side4 ?side5 ?side6 A20.out).mono ?_); (case side1 => exact cT_ (Kd.C_below HR0_0.out HB.out)); (case side2 => exact HC0_0.out); (case side3 => exact cT_ (Kd.C_below HR0_1.out HB.out)); (case side4 => exact HC0_1.out); (case side5 => exact cT_ (Kd.C_below HR0_3.out HB.out)); (case side6 => exact HC0_3.out); rintro e w39 ⟨rfl, hb⟩; refine ⟨_, rfl, ?_⟩; replace BK674 := kB_ BK674 hb; replace HB := hB_ hb; (try clear hb); (try clear hb2); (try clear hk); (try clear hi)) | ((with_reducible refine gate_dst (N := 12) rfl ?_); refine bE_ 12 #[.int .i64 0, .int .u64 0] 34 ?_; intro gb680 hg w40 hbox hb; have BK680 := Aside0.mk hbox; have GW680 := geT_ w.heap.size hg; have GE680 := geT_ w.heap.size hg; have NB674_680 := nlT_ BK674.out hg; have NB680_674 := ngT_ BK674.out hg; replace BK674 := kB_ BK674 hb; replace HB := hB_ hb; clear hb hbox hg; have hnb41 := NB680_674.out; have hnc41 := NB674_680.out; obtain ⟨hcz42_0, hcz42_1, hfz42_0, hfz42_1⟩ := b2_ BK680.out; obtain ⟨hcz43_0, hcz43_1, hcz43_2, hcz43_3, hfz43_0, hfz43_1, hfz43_2, hfz43_3⟩ := b4_ BK674.out) | ((with_reducible refine gate_callee (f := 23) rfl ?_); refine gL_ (some 52) Try.func23 #[.agg #[.slice A0_0 l0_0.length c0_0, .slice A0_1 l0_1.length c0_1, .int .u64 a0_2, .slice A0_3 l0_3.length c0_3], .int .u32 a1, .int .u32 a2] ?_; (with_reducible refine (ferryref05_Bytes.calls kj5 _ _ l0_0 _ _ l0_1 a0_2 _ _ l0_3 a1 a2 t681 t682 t683 _ ?side1 ?side2 ?side3 ?side4 ?side5 ?side6 A21.out).mono ?_); (case side1 => exact Kd.C_below HR0_0.out beT_); (case side2 => exact HC0_0.out); (case side3 => exact Kd.C_below HR0_1.out beT_); (case side4 => exact HC0_1.out); (case side5 => exact Kd.C_below HR0_3.out beT_); (case side6 => exact HC0_3.out); rintro e w44 ⟨rfl, hb⟩; refine ⟨_, rfl, ?_⟩; replace BK674 := kB_ BK674 hb; replace BK680 := Aside0.mk (blk_below (g := gb680) (o := .cells #[.int .i64 t678, .int .u64 t679] 34 (0, 0)) (kP_ BK680.out) hb); replace HB := hB_ hb; (try clear hb); (try clear hb2); (try clear hk); (try clear hi)) | ((with_reducible refine gate_dst (N := 14) rfl ?_); refine bE_ 14 #[.int .i64 0, .int .u64 0] 34 ?_; intro gb684 hg w45 hbox hb; have BK684 := Aside0.mk hbox; have GW684 := geT_ w.heap.size hg; have GE684 := geT_ w.heap.size hg; have NB674_684 := nlT_ BK674.out hg; have NB684_674 := ngT_ BK674.out hg; have NB680_684 := nlT_ BK680.out hg; have NB684_680 := ngT_ BK680.out hg; replace BK674 := kB_ BK674 hb; replace BK680 := kB_ BK680 hb; replace HB := hB_ hb; clear hb hbox hg; have hnb46 := NB684_674.out; have hnc46 := NB674_684.out; have hnb47 := NB684_680.out; have hnc47 := NB680_684.out; obtain ⟨hcz48_0, hcz48_1, hfz48_0, hfz48_1⟩ := b2_ BK684.out; obtain ⟨hcz49_0, hcz49_1, hcz49_2, hcz49_3, hfz49_0, hfz49_1, hfz49_2, hfz49_3⟩ := b4_ BK674.out) | ((with_reducible refine gate_callee (f := 17) rfl ?_); refine gL_ (some 59) Try.func17 #[.agg #[.slice A0_0 l0_0.length c0_0, .slice A0_1 l0_1.length c0_1, .int .u64 a0_2, .slice A0_3 l0_3.length c0_3], .int .u32 a1, .int .i64 a3] ?_; (with_reducible refine (gmem_Load.calls _ _ l0_0 _ _ l0_1 a0_2 _ _ l0_3 a1 a3 t685 t686 t687 _ ?side1 ?side2 ?side3 ?side4 ?side5 ?side6 A22.out).mono ?_); (case side1 => exact Kd.C_below HR0_0.out beT_); (case side2 => exact HC0_0.out); (case side3 => exact Kd.C_below HR0_1.out beT_); (case side4 => exact HC0_1.out); (case side5 => exact Kd.C_below HR0_3.out beT_); (case side6 => exact HC0_3.out); rintro e w50 ⟨rfl, hb⟩; refine ⟨_, rfl, ?_⟩; replace BK674 := kB_ BK674 hb; replace BK680 := kB_ BK680 hb; replace BK684 := Aside0.mk (blk_below (g := gb684) (o := .cells #[.int .i64 t682, .int .u64 t683] 34 (0, 0)) (kP_ BK684.out) hb); replace HB := hB_ hb; (try clear hb); (try clear hb2); (try clear hk); (try clear hi)) | ((with_reducible refine gate_dst (N := 16) rfl ?_); refine bE_ 16 #[.int .i64 0, .int .u64 0] 34 ?_; intro gb688 hg w51 hbox hb; have BK688 := Aside0.mk hbox; have GW688 := geT_ w.heap.size hg; have GE688 := geT_ w.heap.size hg; have NB674_688 := nlT_ BK674.out hg; have NB688_674 := ngT_ BK674.out hg; have NB680_688 := nlT_ BK680.out hg; have NB688_680 := ngT_ BK680.out hg; have NB684_688 := nlT_ BK684.out hg; have NB688_684 := ngT_ BK684.out hg; replace BK674 := kB_ BK674 hb; replace BK680 := kB_ BK680 hb; replace BK684 := kB_ BK684 hb; replace HB := hB_ hb; clear hb hbox hg; have hnb52 := NB688_674.out; have hnc52 := NB674_688.out; have hnb53 := NB688_680.out; have hnc53 := NB680_688.out; have hnb54 := NB688_684.out; have hnc54 := NB684_688.out; obtain ⟨hcz55_0, hcz55_1, hfz55_0, hfz55_1⟩ := b2_ BK688.out; obtain ⟨hcz56_0, hcz56_1, hcz56_2, hcz56_3, hfz56_0, hfz56_1, hfz56_2, hfz56_3⟩ := b4_ BK674.out) | ((with_reducible refine gate_callee (f := 24) rfl ?_); refine gL_ (some 66) Try.func24 #[.agg #[.slice A0_0 l0_0.length c0_0, .slice A0_1 l0_1.length c0_1, .int .u64 a0_2, .slice A0_3 l0_3.length c0_3], .int .u32 a1, .int .i64 a3] ?_; (with_reducible refine (ferryref05_Load.calls kj5 _ _ l0_0 _ _ l0_1 a0_2 _ _ l0_3 a1 a3 t689 t690 t691 _ ?side1 ?side2 ?side3 ?side4 ?side5 ?side6 A23.out).mono ?_); (case side1 => exact Kd.C_below HR0_0.out beT_); (case side2 => exact HC0_0.out); (case side3 => exact Kd.C_below HR0_1.out beT_); (case side4 => exact HC0_1.out); (case side5 => exact Kd.C_below HR0_3.out beT_); (case side6 => exact HC0_3.out); rintro e w57 ⟨rfl, hb⟩; refine ⟨_, rfl, ?_⟩; replace BK674 := kB_ BK674 hb; replace BK680 := kB_ BK680 hb; replace BK684 := kB_ BK684 hb; replace BK688 := Aside0.mk (blk_below (g := gb688) (o := .cells #[.int .i64 t686, .int .u64 t687] 34 (0, 0)) (kP_ BK688.out) hb); replace HB := hB_ hb; (try clear hb); (try clear hb2); (try clear hk); (try clear hi)) | ((with_reducible refine gate_dst (N := 18) rfl ?_); refine bE_ 18 #[.int .i64 0, .int .u64 0] 34 ?_; intro gb692 hg w58 hbox hb; have BK692 := Aside0.mk hbox; have GW692 := geT_ w.heap.size hg; have GE692 := geT_ w.heap.size hg; have NB674_692 := nlT_ BK674.out hg; have NB692_674 := ngT_ BK674.out hg; have NB680_692 := nlT_ BK680.out hg; have NB692_680 := ngT_ BK680.out hg; have NB684_692 := nlT_ BK684.out hg; have NB692_684 := ngT_ BK684.out hg; have NB688_692 := nlT_ BK688.out hg; have NB692_688 := ngT_ BK688.out hg; replace BK674 := kB_ BK674 hb; replace BK680 := kB_ BK680 hb; replace BK684 := kB_ BK684 hb; replace BK688 := kB_ BK688 hb; replace HB := hB_ hb; clear hb hbox hg; have hnb59 := NB692_674.out; have hnc59 := NB674_692.out; have hnb60 := NB692_680.out; have hnc60 := NB680_692.out; have hnb61 := NB692_684.out; have hnc61 := NB684_692.out; have hnb62 := NB692_688.out; have hnc62 := NB688_692.out; obtain ⟨hcz63_0, hcz63_1, hfz63_0, hfz63_1⟩ := b2_ BK692.out; obtain ⟨hcz64_0, hcz64_1, hcz64_2, hcz64_3, hfz64_0, hfz64_1, hfz64_2, hfz64_3⟩ := b4_ BK674.out) | ((with_reducible refine gate_callee (f := 25) rfl ?_); refine gL_ (some 72) Try.func25 #[.agg #[.slice A0_0 l0_0.length c0_0, .slice A0_1 l0_1.length c0_1, .int .u64 a0_2, .slice A0_3 l0_3.length c0_3], .int .u32 a1] ?_; (with_reducible refine (gmem_Fetch.calls _ _ l0_0 _ _ l0_1 a0_2 _ _ l0_3 a1 t693 t694 t695 _ ?side1 ?side2 ?side3 ?side4 ?side5 ?side6 A24.out).mono ?_); (case side1 => exact Kd.C_below HR0_0.out beT_); (case side2 => exact HC0_0.out); (case side3 => exact Kd.C_below HR0_1.out beT_); (case side4 => exact HC0_1.out); (case side5 => exact Kd.C_below HR0_3.out beT_); (case side6 => exact HC0_3.out); rintro e w65 ⟨rfl, hb⟩; refine ⟨_, rfl, ?_⟩; replace BK674 := kB_ BK674 hb; replace BK680 := kB_ BK680 hb; replace BK684 := kB_ BK684 hb; replace BK688 := kB_ BK688 hb; replace BK692 := Aside0.mk (blk_below (g := gb692) (o := .cells #[.int .i64 t690, .int .u64 t691] 34 (0, 0)) (kP_ BK692.out) hb); replace HB := hB_ hb; (try clear hb); (try clear hb2); (try clear hk); (try clear hi)) | ((with_reducible refine gate_dst (N := 20) rfl ?_); refine bE_ 20 #[.int .i64 0, .int .u64 0] 34 ?_; intro gb696 hg w66 hbox hb; have BK696 := Aside0.mk hbox; have GW696 := geT_ w.heap.size hg; have GE696 := geT_ w.heap.size hg; have NB674_696 := nlT_ BK674.out hg; have NB696_674 := ngT_ BK674.out hg; have NB680_696 := nlT_ BK680.out hg; have NB696_680 := ngT_ BK680.out hg; have NB684_696 := nlT_ BK684.out hg; have NB696_684 := ngT_ BK684.out hg; have NB688_696 := nlT_ BK688.out hg; have NB696_688 := ngT_ BK688.out hg; have NB692_696 := nlT_ BK692.out hg; have NB696_692 := ngT_ BK692.out hg; replace BK674 := kB_ BK674 hb; replace BK680 := kB_ BK680 hb; replace BK684 := kB_ BK684 hb; replace BK688 := kB_ BK688 hb; replace BK692 := kB_ BK692 hb; replace HB := hB_ hb; clear hb hbox hg; have hnb67 := NB696_674.out; have hnc67 := NB674_696.out; have hnb68 := NB696_680.out; have hnc68 := NB680_696.out; have hnb69 := NB696_684.out; have hnc69 := NB684_696.out; have hnb70 := NB696_688.out; have hnc70 := NB688_696.out; have hnb71 := NB696_692.out; have hnc71 := NB692_696.out; obtain ⟨hcz72_0, hcz72_1, hfz72_0, hfz72_1⟩ := b2_ BK696.out; obtain ⟨hcz73_0, hcz73_1, hcz73_2, hcz73_3, hfz73_0, hfz73_1, hfz73_2, hfz73_3⟩ := b4_ BK674.out) | ((with_reducible refine gate_callee (f := 26) rfl ?_); refine gL_ (some 78) Try.func26 #[.agg #[.slice A0_0 l0_0.length c0_0, .slice A0_1 l0_1.length c0_1, .int .u64 a0_2, .slice A0_3 l0_3.length c0_3], .int .u32 a1] ?_; (with_reducible refine (ferryref05_Fetch.calls kj5 _ _ l0_0 _ _ l0_1 a0_2 _ _ l0_3 a1 t697 t698 t699 _ ?side1 ?side2 ?side3 ?side4 ?side5 ?side6 A25.out).mono ?_); (case side1 => exact Kd.C_below HR0_0.out beT_); (case side2 => exact HC0_0.out); (case side3 => exact Kd.C_below HR0_1.out beT_); (case side4 => exact HC0_1.out); (case side5 => exact Kd.C_below HR0_3.out beT_); (case side6 => exact HC0_3.out); rintro e w74 ⟨rfl, hb⟩; refine ⟨_, rfl, ?_⟩; replace BK674 := kB_ BK674 hb; replace BK680 := kB_ BK680 hb; replace BK684 := kB_ BK684 hb; replace BK688 := kB_ BK688 hb; replace BK692 := kB_ BK692 hb; replace BK696 := Aside0.mk (blk_below (g := gb696) (o := .cells #[.int .i64 t694, .int .u64 t695] 34 (0, 0)) (kP_ BK696.out) hb); replace HB := hB_ hb; (try clear hb); (try clear hb2); (try clear hk); (try clear hi)) | ((with_reducible refine gate_dst (N := 22) rfl ?_); refine bE_ 22 #[.int .i64 0, .int .u64 0] 34 ?_; intro gb700 hg w75 hbox hb; have BK700 := Aside0.mk hbox; have GW700 := geT_ w.heap.size hg; have GE700 := geT_ w.heap.size hg; have NB674_700 := nlT_ BK674.out hg; have NB700_674 := ngT_ BK674.out hg; have NB680_700 := nlT_ BK680.out hg; have NB700_680 := ngT_ BK680.out hg; have NB684_700 := nlT_ BK684.out hg; have NB700_684 := ngT_ BK684.out hg; have NB688_700 := nlT_ BK688.out hg; have NB700_688 := ngT_ BK688.out hg; have NB692_700 := nlT_ BK692.out hg; have NB700_692 := ngT_ BK692.out hg; have NB696_700 := nlT_ BK696.out hg; have NB700_696 := ngT_ BK696.out hg; replace BK674 := kB_ BK674 hb; replace BK680 := kB_ BK680 hb; replace BK684 := kB_ BK684 hb; replace BK688 := kB_ BK688 hb; replace BK692 := kB_ BK692 hb; replace BK696 := kB_ BK696 hb; replace HB := hB_ hb; clear hb hbox hg; have hnb76 := NB700_674.out; have hnc76 := NB674_700.out; have hnb77 := NB700_680.out; have hnc77 := NB680_700.out; have hnb78 := NB700_684.out; have hnc78 := NB684_700.out; have hnb79 := NB700_688.out; have hnc79 := NB688_700.out; have hnb80 := NB700_692.out; have hnc80 := NB692_700.out; have hnb81 := NB700_696.out; have hnc81 := NB696_700.out; obtain ⟨hcz82_0, hcz82_1, hfz82_0, hfz82_1⟩ := b2_ BK700.out; obtain ⟨hcz83_0, hcz83_1, hcz83_2, hcz83_3, hfz83_0, hfz83_1, hfz83_2, hfz83_3⟩ := b4_ BK674.out) | ((with_reducible refine gate_callee (f := 27) rfl ?_); refine gL_ (some 85) Try.func27 #[.agg #[.slice A0_0 l0_0.length c0_0, .slice A0_1 l0_1.length c0_1, .int .u64 a0_2, .slice A0_3 l0_3.length c0_3], .int .u32 a1, .int .i64 a4] ?_; (with_reducible refine (gmem_Text.calls _ _ l0_0 _ _ l0_1 a0_2 _ _ l0_3 a1 a4 t701 t702 t703 t704 _ ?side1 ?side2 ?side3 ?side4 ?side5 ?side6 A26.out).mono ?_); (case side1 => exact Kd.C_below HR0_0.out beT_); (case side2 => exact HC0_0.out); (case side3 => exact Kd.C_below HR0_1.out beT_); (case side4 => exact HC0_1.out); (case side5 => exact Kd.C_below HR0_3.out beT_); (case side6 => exact HC0_3.out); rintro e w84 ⟨rfl, hb⟩; refine ⟨_, rfl, ?_⟩; replace BK674 := kB_ BK674 hb; replace BK680 := kB_ BK680 hb; replace BK684 := kB_ BK684 hb; replace BK688 := kB_ BK688 hb; replace BK692 := kB_ BK692 hb; replace BK696 := kB_ BK696 hb; replace BK700 := Aside0.mk (blk_below (g := gb700) (o := .cells #[.int .i64 t698, .int .u64 t699] 34 (0, 0)) (kP_ BK700.out) hb); replace HB := hB_ hb; (try clear hb); (try clear hb2); (try clear hk); (try clear hi)) | ((with_reducible refine gate_dst (N := 24) rfl ?_); refine bE_ 24 #[.int .i64 0, .int .u64 0] 34 ?_; intro gb705 hg w85 hbox hb; have BK705 := Aside0.mk hbox; have GW705 := geT_ w.heap.size hg; have GE705 := geT_ w.heap.size hg; have NB674_705 := nlT_ BK674.out hg; have NB705_674 := ngT_ BK674.out hg; have NB680_705 := nlT_ BK680.out hg; have NB705_680 := ngT_ BK680.out hg; have NB684_705 := nlT_ BK684.out hg; have NB705_684 := ngT_ BK684.out hg; have NB688_705 := nlT_ BK688.out hg; have NB705_688 := ngT_ BK688.out hg; have NB692_705 := nlT_ BK692.out hg; have NB705_692 := ngT_ BK692.out hg; have NB696_705 := nlT_ BK696.out hg; have NB705_696 := ngT_ BK696.out hg; have NB700_705 := nlT_ BK700.out hg; have NB705_700 := ngT_ BK700.out hg; replace BK674 := kB_ BK674 hb; replace BK680 := kB_ BK680 hb; replace BK684 := kB_ BK684 hb; replace BK688 := kB_ BK688 hb; replace BK692 := kB_ BK692 hb; replace BK696 := kB_ BK696 hb; replace BK700 := kB_ BK700 hb; replace HB := hB_ hb; clear hb hbox hg; have hnb86 := NB705_674.out; have hnc86 := NB674_705.out; have hnb87 := NB705_680.out; have hnc87 := NB680_705.out; have hnb88 := NB705_684.out; have hnc88 := NB684_705.out; have hnb89 := NB705_688.out; have hnc89 := NB688_705.out; have hnb90 := NB705_692.out; have hnc90 := NB692_705.out; have hnb91 := NB705_696.out; have hnc91 := NB696_705.out; have hnb92 := NB705_700.out; have hnc92 := NB700_705.out; obtain ⟨hcz93_0, hcz93_1, hfz93_0, hfz93_1⟩ := b2_ BK705.out; obtain ⟨hcz94_0, hcz94_1, hcz94_2, hcz94_3, hfz94_0, hfz94_1, hfz94_2, hfz94_3⟩ := b4_ BK674.out) | ((with_reducible refine gate_callee (f := 28) rfl ?_); refine gL_ (some 93) Try.func28 #[.agg #[.slice A0_0 l0_0.length c0_0, .slice A0_1 l0_1.length c0_1, .int .u64 a0_2, .slice A0_3 l0_3.length c0_3], .int .u32 a1, .int .i64 a4] ?_; (with_reducible refine (ferryref05_Text.calls kj5 _ _ l0_0 _ _ l0_1 a0_2 _ _ l0_3 a1 a4 t706 t707 t708 t709 _ ?side1 ?side2 ?side3 ?side4 ?side5 ?side6 A27.out).mono ?_); (case side1 => exact Kd.C_below HR0_0.out beT_); (case side2 => exact HC0_0.out); (case side3 => exact Kd.C_below HR0_1.out beT_); (case side4 => exact HC0_1.out); (case side5 => exact Kd.C_below HR0_3.out beT_); (case side6 => exact HC0_3.out); rintro e w95 ⟨rfl, hb⟩; refine ⟨_, rfl, ?_⟩; replace BK674 := kB_ BK674 hb; replace BK680 := kB_ BK680 hb; replace BK684 := kB_ BK684 hb; replace BK688 := kB_ BK688 hb; replace BK692 := kB_ BK692 hb; replace BK696 := kB_ BK696 hb; replace BK700 := kB_ BK700 hb; replace BK705 := Aside0.mk (blk_below (g := gb705) (o := .cells #[.int .i64 t702, .int .u64 t703] 34 (0, 0)) (kP_ BK705.out) hb); replace HB := hB_ hb; (try clear hb); (try clear hb2); (try clear hk); (try clear hi)) | ((with_reducible refine gate_dst (N := 27) rfl ?_); refine bE_ 27 #[.int .i64 0, .int .u64 0] 34 ?_; intro gb710 hg w96 hbox hb; have BK710 := Aside0.mk hbox; have GW710 := geT_ w.heap.size hg; have GE710 := geT_ w.heap.size hg; have NB674_710 := nlT_ BK674.out hg; have NB710_674 := ngT_ BK674.out hg; have NB680_710 := nlT_ BK680.out hg; have NB710_680 := ngT_ BK680.out hg; have NB684_710 := nlT_ BK684.out hg; have NB710_684 := ngT_ BK684.out hg; have NB688_710 := nlT_ BK688.out hg; have NB710_688 := ngT_ BK688.out hg; have NB692_710 := nlT_ BK692.out hg; have NB710_692 := ngT_ BK692.out hg; have NB696_710 := nlT_ BK696.out hg; have NB710_696 := ngT_ BK696.out hg; have NB700_710 := nlT_ BK700.out hg; have NB710_700 := ngT_ BK700.out hg; have NB705_710 := nlT_ BK705.out hg; have NB710_705 := ngT_ BK705.out hg; replace BK674 := kB_ BK674 hb; replace BK680 := kB_ BK680 hb; replace BK684 := kB_ BK684 hb; replace BK688 := kB_ BK688 hb; replace BK692 := kB_ BK692 hb; replace BK696 := kB_ BK696 hb; replace BK700 := kB_ BK700 hb; replace BK705 := kB_ BK705 hb; replace HB := hB_ hb; clear hb hbox hg; have hnb97 := NB710_674.out; have hnc97 := NB674_710.out; have hnb98 := NB710_680.out; have hnc98 := NB680_710.out; have hnb99 := NB710_684.out; have hnc99 := NB684_710.out; have hnb100 := NB710_688.out; have hnc100 := NB688_710.out; have hnb101 := NB710_692.out; have hnc101 := NB692_710.out; have hnb102 := NB710_696.out; have hnc102 := NB696_710.out; have hnb103 := NB710_700.out; have hnc103 := NB700_710.out; have hnb104 := NB710_705.out; have hnc104 := NB705_710.out; obtain ⟨hcz105_0, hcz105_1, hfz105_0, hfz105_1⟩ := b2_ BK710.out; obtain ⟨hcz106_0, hcz106_1, hfz106_0, hfz106_1⟩ := b2_ BK680.out; obtain ⟨hcz107_0, hcz107_1, hfz107_0, hfz107_1⟩ := b2_ BK684.out; obtain ⟨hcz108_0, hcz108_1, hfz108_0, hfz108_1⟩ := b2_ BK688.out; obtain ⟨hcz109_0, hcz109_1, hfz109_0, hfz109_1⟩ := b2_ BK692.out; obtain ⟨hcz110_0, hcz110_1, hfz110_0, hfz110_1⟩ := b2_ BK696.out; obtain ⟨hcz111_0, hcz111_1, hfz111_0, hfz111_1⟩ := b2_ BK700.out; obtain ⟨hcz112_0, hcz112_1, hfz112_0, hfz112_1⟩ := b2_ BK705.out) | (go_at_call 10; (with_reducible refine (ferrylaw05_awake.calls kj5  t711 _ A37.out).mono ?_); rintro e w113 ⟨rfl, hb⟩; replace BK674 := kB_ BK674 hb; replace BK680 := kB_ BK680 hb; replace BK684 := kB_ BK684 hb; replace BK688 := kB_ BK688 hb; replace BK692 := kB_ BK692 hb; replace BK696 := kB_ BK696 hb; replace BK700 := kB_ BK700 hb; replace BK705 := kB_ BK705 hb; replace BK710 := Aside0.mk (blk_below (g := gb710) (o := .cells #[.int .i64 t707, .int .u64 t708] 34 (0, 0)) (kP_ BK710.out) hb); replace HB := hB_ hb; (try clear hb); (try clear hb2); (try clear hk); (try clear hi)))
                        go_ret
                        exact ⟨r3_, beT_⟩
                      rw [if_neg c36] at H
                      exact absurd H (by simp)
                    rw [if_neg c35] at H
                    exact absurd H (by simp)
                  rw [if_neg c34] at H
                  exact absurd H (by simp)
                rw [if_neg c33] at H
                exact absurd H (by simp)
              rw [if_neg c32] at H
              exact absurd H (by simp)
            rw [if_neg c31] at H
            exact absurd H (by simp)
          rw [if_neg c30] at H
          exact absurd H (by simp)
        rw [if_neg c29] at H
        exact absurd H (by simp)
      rw [if_neg c28] at H
      exact absurd H (by simp)

end Go.Proofs.Ytgkjdpdmmlalcaa.F
end
