import Derived.Test.YtgkjdpdmmlalcaaVZF0
import Derived.Test.YtgkjdpdmmlalcaaVA0
import Derived.Test.YtgkjdpdmmlalcaaVA4HHost3
import Derived.Test.YtgkjdpdmmlalcaaVA6HHost11
import Derived.Test.YtgkjdpdmmlalcaaVA7
section
namespace Go.Proofs.Ytgkjdpdmmlalcaa.F
open Go.RowKit Go.Proofs.YtgkjdpdmmlalcaaW.PrintWords Go.Proofs.YtgkjdpdmmlalcaaW.PrintLast Go.Proofs.YtgkjdpdmmlalcaaW.PrintMore
attribute [local go_sem] max2_int min2_int max_two min_two max_three min_three max_four min_four
attribute [local go_sem] cell_twice
set_option linter.unusedVariables false
set_option linter.unusedSimpArgs false

mutual
def ferryref04_Fit.j0 : Nat → Bool → List (S83) → List (S88) → Int → List (S41) → Option (Bool)
  | 0, _, _, _, _, _ => none
  | k + 1, x32, x110000, x110001, x110002, x110003 => if x32 = true then (some false) else (ferryref04_Fit.l0 k 0 x110000 x110001 x110002 x110003)
def ferryref04_Fit.l0 : Nat → Int → List (S83) → List (S88) → Int → List (S41) → Option (Bool)
  | 0, _, _, _, _, _ => none
  | k + 1, x3, x110000, x110001, x110002, x110003 => if x3 < (x110003.length : Int) then (if 0 ≤ x3 then (if ((rd_T41 x110003 x3).f0) ≥ 1048576 then (ferryref04_Fit.j2 k x3 true x110000 x110001 x110002 x110003 ((rd_T41 x110003 x3).f0) ((rd_T41 x110003 x3).f1)) else (if ((rd_T41 x110003 x3).f1) < 0 then (ferryref04_Fit.j2 k x3 true x110000 x110001 x110002 x110003 ((rd_T41 x110003 x3).f0) ((rd_T41 x110003 x3).f1)) else (if ((rd_T41 x110003 x3).f1) > 7 then (ferryref04_Fit.j2 k x3 true x110000 x110001 x110002 x110003 ((rd_T41 x110003 x3).f0) ((rd_T41 x110003 x3).f1)) else (if x3 > 0 then (if 0 ≤ (wrap64 (x3 - 1)) then (if (wrap64 (x3 - 1)) < (x110003.length : Int) then (ferryref04_Fit.j2 k x3 (decide (((rd_T41 x110003 (wrap64 (x3 - 1))).f0) ≥ ((rd_T41 x110003 x3).f0))) x110000 x110001 x110002 x110003 ((rd_T41 x110003 x3).f0) ((rd_T41 x110003 x3).f1)) else (none)) else (none)) else (ferryref04_Fit.j2 k x3 false x110000 x110001 x110002 x110003 ((rd_T41 x110003 x3).f0) ((rd_T41 x110003 x3).f1)))))) else (none)) else (ferryref04_Fit.l1 k 0 x110000 x110001 x110002 x110003)
def ferryref04_Fit.j2 : Nat → Int → Bool → List (S83) → List (S88) → Int → List (S41) → Int → Int → Option (Bool)
  | 0, _, _, _, _, _, _, _, _ => none
  | k + 1, x3, x73, x110000, x110001, x110002, x110003, x113000, x113001 => if x73 = true then (some false) else ((ferryref03_Place.f k x110000 x110001 (IntKind.u64.wrap (Int.tdiv (IntKind.u64.wrap (x110002 + (IntKind.u64.wrap ((IntKind.u64.wrap (x113000)) * 4096)))) 16384))).bind fun t114 => (if t114 < 0 then (some false) else (ferryref04_Fit.l0 k (wrap64 (x3 + 1)) x110000 x110001 x110002 x110003)))
def ferryref04_Fit.l1 : Nat → Int → List (S83) → List (S88) → Int → List (S41) → Option (Bool)
  | 0, _, _, _, _, _ => none
  | k + 1, x5, x110000, x110001, x110002, x110003 => if x5 < (x110000.length : Int) then (if 0 ≤ x5 then ((ferryref04_own.f x110000 x110001 x110002 x110003 (IntKind.u64.wrap (((rd_T83 x110000 x5).f0) * 16384))).bind fun bt117 => (if bt117.2 = true then (if ((rd_T83 x110000 x5).f1) = 3 then ((ferryref04_used.f k x110000 x110001 x110002 x110003 ((rd_T83 x110000 x5).f0)).bind fun t119 => (if t119 = true then (ferryref04_Fit.l1 k (wrap64 (x5 + 1)) x110000 x110001 x110002 x110003) else (some false))) else (some false)) else (ferryref04_Fit.l1 k (wrap64 (x5 + 1)) x110000 x110001 x110002 x110003))) else (none)) else (ferryref04_Fit.l2 k 0 x110000 x110001 x110002 x110003)
def ferryref04_Fit.l2 : Nat → Int → List (S83) → List (S88) → Int → List (S41) → Option (Bool)
  | 0, _, _, _, _, _ => none
  | k + 1, x9, x110000, x110001, x110002, x110003 => if x9 < (x110001.length : Int) then (if 0 ≤ x9 then ((ferryref04_own.f x110000 x110001 x110002 x110003 ((rd_T88 x110001 x9).f0)).bind fun bt121 => (if bt121.2 = true then ((ferryref04_Prot.f k x110000 x110001 x110002 x110003 bt121.1).bind fun t123 => (if t123 < 0 then (some false) else (ferryref04_Fit.l2 k (wrap64 (x9 + 1)) x110000 x110001 x110002 x110003))) else (ferryref04_Fit.l2 k (wrap64 (x9 + 1)) x110000 x110001 x110002 x110003))) else (none)) else (some true)
end
def ferryref04_Fit.f (k : Nat) (l0_0 : List (S83)) (l0_1 : List (S88)) (a0_2 : Int) (l0_3 : List (S41)) : Option (Bool) := (ferryref03_Fit.f l0_0 l0_1).bind fun t110 => (if t110 = true then (if (Int.tmod a0_2 16384) = 0 then (if a0_2 > 4611686018427387904 then (ferryref04_Fit.j0 k true l0_0 l0_1 a0_2 l0_3) else (ferryref04_Fit.j0 k (decide ((l0_3.length : Int) > 256)) l0_0 l0_1 a0_2 l0_3)) else (ferryref04_Fit.j0 k true l0_0 l0_1 a0_2 l0_3)) else (ferryref04_Fit.j0 k true l0_0 l0_1 a0_2 l0_3))
def ferryref04_Fit.T7 : Bool × List (List Nat × List Nat) := (true, [([], []), ([0], [0]), ([1], [1]), ([2], [2]), ([3], [3]), ([4, 3], [3, 4]), ([5, 3], [3, 5]), ([3, 6], [3, 6]), ([7, 3], [7]), ([8], [8]), ([9, 8], [8, 9]), ([10, 8], [8, 10]), ([8, 11], [8, 11]), ([12, 8], [12]), ([13], [13]), ([14, 13], [13, 14]), ([15, 13, 13], [13, 15]), ([16], [16]), ([17, 16], [16, 17]), ([16], [16]), ([19, 16], [16, 19]), ([18, 20, 16], [16, 18, 20]), ([21, 16], [16, 21]), ([22, 16], [16, 22]), ([16], [16]), ([24, 16], [16, 24]), ([23, 25, 16], [16, 23, 25]), ([16, 26, 13], [13, 16, 26]), ([13, 27], [13, 27])])
def ferryref04_Fit.B7 : List Nat := [0, 1, 3, 7, 15, 31, 63, 127, 255, 511, 1023, 2047, 4095, 8191, 16383, 32767, 65535, 131071, 262143, 131071, 655359, 2097151, 4194303, 8388607, 131071, 16908287, 67108863, 134217727, 268435455]
theorem ferryref04_Fit.tab7 : rtab .any (opsOf Try.f16 7) = ferryref04_Fit.T7 := by kernel_rfl
theorem ferryref04_Fit.bits7 : waitsOk ferryref04_Fit.T7.2 ferryref04_Fit.B7 = true := by kernel_rfl
def ferryref04_Fit.T21 : Bool × List (List Nat × List Nat) := (true, [([], []), ([], []), ([1], [1]), ([2], [2]), ([], []), ([3, 4], [3, 4]), ([5], [5]), ([6], [6]), ([0, 7], [0, 7]), ([8], [8]), ([9], [9]), ([9], [9]), ([10, 8, 0, 1, 2, 3, 4, 5, 6, 7, 8, 9, 10], [10]), ([11, 12, 0, 1, 2, 3, 4, 5, 6, 7, 8, 9, 10, 11, 12], [11])])
def ferryref04_Fit.B21 : List Nat := [0, 0, 2, 6, 0, 30, 62, 126, 255, 511, 1023, 1023, 2047, 8191]
theorem ferryref04_Fit.tab21 : rtab .any (opsOf Try.f16 21) = ferryref04_Fit.T21 := by kernel_rfl
theorem ferryref04_Fit.bits21 : waitsOk ferryref04_Fit.T21.2 ferryref04_Fit.B21 = true := by kernel_rfl
set_option maxHeartbeats 8000000 in
set_option maxRecDepth 100000 in
theorem ferryref04_Fit.calls (k : Nat) (A0_0 : Option Addr) (c0_0 : Nat) (l0_0 : List (S83)) (A0_1 : Option Addr) (c0_1 : Nat) (l0_1 : List (S88)) (a0_2 : Int) (A0_3 : Option Addr) (c0_3 : Nat) (l0_3 : List (S41)) (r : Bool) (w : World) (hr0_0 : Kd.C k83 w A0_0 l0_0.length l0_0) (hc0_0 : l0_0.length ≤ c0_0) (hr0_1 : Kd.C k88 w A0_1 l0_1.length l0_1) (hc0_1 : l0_1.length ≤ c0_1) (hr0_3 : Kd.C k41 w A0_3 l0_3.length l0_3) (hc0_3 : l0_3.length ≤ c0_3) (h : ferryref04_Fit.f k l0_0 l0_1 a0_2 l0_3 = some r) :
    Calls Try.prog 16 #[.agg #[.slice A0_0 l0_0.length c0_0, .slice A0_1 l0_1.length c0_1, .int .u64 a0_2, .slice A0_3 l0_3.length c0_3]] w fun e w' => e = .returned (.bool r) ∧ Below w.heap.size w w' := by
  have hu29 := Try.underlying29
  have hu25 := Try.underlying25
  have hu41 := Try.underlying41
  have hu83 := Try.underlying83
  have HR0_0 := Aside0.mk hr0_0
  have HC0_0 := Aside0.mk hc0_0
  clear hr0_0 hc0_0
  have HR0_1 := Aside0.mk hr0_1
  have HC0_1 := Aside0.mk hc0_1
  clear hr0_1 hc0_1
  have HR0_3 := Aside0.mk hr0_3
  have HC0_3 := Aside0.mk hc0_3
  clear hr0_3 hc0_3
  have HB := Aside0.mk (Below.refl w.heap.size w)
  have H : ((ferryref03_Fit.f l0_0 l0_1).bind fun t110 => (if t110 = true then (if (Int.tmod a0_2 16384) = 0 then (if a0_2 > 4611686018427387904 then (ferryref04_Fit.j0 k true l0_0 l0_1 a0_2 l0_3) else (ferryref04_Fit.j0 k (decide ((l0_3.length : Int) > 256)) l0_0 l0_1 a0_2 l0_3)) else (ferryref04_Fit.j0 k true l0_0 l0_1 a0_2 l0_3)) else (ferryref04_Fit.j0 k true l0_0 l0_1 a0_2 l0_3))) = some r := h
  clear h
  have HC2 := Aside0.mk H
  clear H
  go_enter Try.func16, Try.ntmps16
  go_upto_region 1 with (first | ((with_reducible refine gate_dst (N := 1) rfl ?_); (try (refine gate_guard (by rfl) ?_; dsimp only)); refine bE_ 1 #[.slice A0_0 l0_0.length c0_0, .slice A0_1 l0_1.length c0_1, .int .u64 a0_2, .slice A0_3 l0_3.length c0_3] 29 ?_; intro gb109 hg w3 hbox hb; have BK109 := Aside0.mk hbox; have GW109 := geT_ w.heap.size hg; have GE109 := geT_ w.heap.size hg; replace HB := hB_ hb; clear hb hbox hg))
  (try simp only [Act.put, List.setIfInBounds_toArray, List.set_cons_zero, List.set_cons_succ])
  go_cut [32] (fun v32 wc => ∃ (kq : Nat) (x32_1 : Bool), v32 = .bool x32_1 ∧ Aside0 (ferryref04_Fit.j0 kq x32_1 l0_0 l0_1 a0_2 l0_3 = some r) ∧ Aside0 (kq ≤ k) ∧ Aside0 (wc.heap[gb109]? = some (.cells #[(.slice A0_0 l0_0.length c0_0), (.slice A0_1 l0_1.length c0_1), .int .u64 a0_2, (.slice A0_3 l0_3.length c0_3)] 29 (0, 0))) ∧ Aside0 (Below w.heap.size w wc))
  case first =>
    have H := HC2.out
    clear HC2
    replace H := Option.bind_eq_some_iff.mp H
    obtain ⟨t110, A40, H⟩ := H
    have A4 := Aside0.mk A40
    clear A40
    by_cases c5 : t110 = true
    · subst c5
      replace H := hP_ H
      by_cases c6 : (Int.tmod a0_2 16384) = 0
      · rw [if_pos c6] at H
        have c6b0 : ((Int.tmod a0_2 16384) == 0) = true := beq_iff_eq.mpr c6
        have c6b1 : ((Int.tmod a0_2 16384) != 0) = false := bne_eq_false_iff_eq.mpr c6
        clear c6
        (first | rw [c6b0] | (simp only [i64_w, i32_w]; rw [c6b0]) | skip)
        by_cases c7 : a0_2 > 4611686018427387904
        · rw [if_pos c7] at H
          have c7b0 : decide (4611686018427387904 < a0_2) = true := decide_eq_true c7
          clear c7
          have H' := Aside0.mk H
          clear H
          obtain ⟨hcz8_0, hcz8_1, hcz8_2, hcz8_3, hfz8_0, hfz8_1, hfz8_2, hfz8_3⟩ := b4_ BK109.out
          go_wp2_with (first | ((with_reducible refine gate_callee (f := 44) rfl ?_); refine gL_ (some 14) Try.func44 #[.agg #[.slice A0_0 l0_0.length c0_0, .slice A0_1 l0_1.length c0_1]] ?_; (with_reducible refine (ferryref03_Fit.calls _ _ l0_0 _ _ l0_1 true _ ?side1 ?side2 ?side3 ?side4 A4.out).mono ?_); (case side1 => exact cT_ (Kd.C_below HR0_0.out HB.out)); (case side2 => exact HC0_0.out); (case side3 => exact cT_ (Kd.C_below HR0_1.out HB.out)); (case side4 => exact HC0_1.out); rintro e w9 ⟨rfl, hb⟩; refine ⟨_, rfl, ?_⟩; replace BK109 := kB_ BK109 hb; replace HB := hB_ hb; (try clear hb); (try clear hb2); (try clear hk); (try clear hi); obtain ⟨hcz10_0, hcz10_1, hcz10_2, hcz10_3, hfz10_0, hfz10_1, hfz10_2, hfz10_3⟩ := b4_ BK109.out))
          go_meet
          case rel => exact ⟨_, (true), r1_, H', ⟨r2_⟩, ⟨bT_ BK109.out⟩, ⟨beT_⟩⟩
        rw [if_neg c7] at H
        have c7b0 : decide (4611686018427387904 < a0_2) = false := decide_eq_false c7
        clear c7
        have H' := Aside0.mk H
        clear H
        obtain ⟨hcz11_0, hcz11_1, hcz11_2, hcz11_3, hfz11_0, hfz11_1, hfz11_2, hfz11_3⟩ := b4_ BK109.out
        go_wp2_with (first | ((with_reducible refine gate_callee (f := 44) rfl ?_); refine gL_ (some 14) Try.func44 #[.agg #[.slice A0_0 l0_0.length c0_0, .slice A0_1 l0_1.length c0_1]] ?_; (with_reducible refine (ferryref03_Fit.calls _ _ l0_0 _ _ l0_1 true _ ?side1 ?side2 ?side3 ?side4 A4.out).mono ?_); (case side1 => exact cT_ (Kd.C_below HR0_0.out HB.out)); (case side2 => exact HC0_0.out); (case side3 => exact cT_ (Kd.C_below HR0_1.out HB.out)); (case side4 => exact HC0_1.out); rintro e w12 ⟨rfl, hb⟩; refine ⟨_, rfl, ?_⟩; replace BK109 := kB_ BK109 hb; replace HB := hB_ hb; (try clear hb); (try clear hb2); (try clear hk); (try clear hi); obtain ⟨hcz13_0, hcz13_1, hcz13_2, hcz13_3, hfz13_0, hfz13_1, hfz13_2, hfz13_3⟩ := b4_ BK109.out))
        go_meet
        case rel => exact ⟨_, (decide ((l0_3.length : Int) > 256)), r1_, H', ⟨r2_⟩, ⟨bT_ BK109.out⟩, ⟨beT_⟩⟩
      rw [if_neg c6] at H
      have c6b0 : ((Int.tmod a0_2 16384) == 0) = false := beq_eq_false_iff_ne.mpr c6
      have c6b1 : ((Int.tmod a0_2 16384) != 0) = true := bne_iff_ne.mpr c6
      (first | rw [c6b0] | (simp only [i64_w, i32_w]; rw [c6b0]) | skip)
      have H' := Aside0.mk H
      clear H
      obtain ⟨hcz14_0, hcz14_1, hcz14_2, hcz14_3, hfz14_0, hfz14_1, hfz14_2, hfz14_3⟩ := b4_ BK109.out
      go_wp2_with (first | ((with_reducible refine gate_callee (f := 44) rfl ?_); refine gL_ (some 14) Try.func44 #[.agg #[.slice A0_0 l0_0.length c0_0, .slice A0_1 l0_1.length c0_1]] ?_; (with_reducible refine (ferryref03_Fit.calls _ _ l0_0 _ _ l0_1 true _ ?side1 ?side2 ?side3 ?side4 A4.out).mono ?_); (case side1 => exact cT_ (Kd.C_below HR0_0.out HB.out)); (case side2 => exact HC0_0.out); (case side3 => exact cT_ (Kd.C_below HR0_1.out HB.out)); (case side4 => exact HC0_1.out); rintro e w15 ⟨rfl, hb⟩; refine ⟨_, rfl, ?_⟩; replace BK109 := kB_ BK109 hb; replace HB := hB_ hb; (try clear hb); (try clear hb2); (try clear hk); (try clear hi); obtain ⟨hcz16_0, hcz16_1, hcz16_2, hcz16_3, hfz16_0, hfz16_1, hfz16_2, hfz16_3⟩ := b4_ BK109.out))
      go_meet
      case rel => exact ⟨_, (true), r1_, H', ⟨r2_⟩, ⟨bT_ BK109.out⟩, ⟨beT_⟩⟩
    replace c5 := Bool.eq_false_iff.mpr c5
    subst c5
    replace H := hN_ H
    have H' := Aside0.mk H
    clear H
    obtain ⟨hcz17_0, hcz17_1, hcz17_2, hcz17_3, hfz17_0, hfz17_1, hfz17_2, hfz17_3⟩ := b4_ BK109.out
    go_wp2_with (first | ((with_reducible refine gate_callee (f := 44) rfl ?_); refine gL_ (some 14) Try.func44 #[.agg #[.slice A0_0 l0_0.length c0_0, .slice A0_1 l0_1.length c0_1]] ?_; (with_reducible refine (ferryref03_Fit.calls _ _ l0_0 _ _ l0_1 false _ ?side1 ?side2 ?side3 ?side4 A4.out).mono ?_); (case side1 => exact cT_ (Kd.C_below HR0_0.out HB.out)); (case side2 => exact HC0_0.out); (case side3 => exact cT_ (Kd.C_below HR0_1.out HB.out)); (case side4 => exact HC0_1.out); rintro e w18 ⟨rfl, hb⟩; refine ⟨_, rfl, ?_⟩; replace BK109 := kB_ BK109 hb; replace HB := hB_ hb; (try clear hb); (try clear hb2); (try clear hk); (try clear hi)))
    go_meet
    case rel => exact ⟨_, (true), r1_, H', ⟨r2_⟩, ⟨bT_ BK109.out⟩, ⟨beT_⟩⟩
  case rest =>
    clear HC2
    try clear c1
    try clear p2
    try clear c4
    try clear c5
    try clear c6
    try clear c6b0
    try clear c6b1
    try clear c7
    try clear c7b0
    try clear c16
    try clear hcz10_0
    try clear hcz10_1
    try clear hcz10_2
    try clear hcz10_3
    try clear hcz11_0
    try clear hcz11_1
    try clear hcz11_2
    try clear hcz11_3
    try clear hcz13_0
    try clear hcz13_1
    try clear hcz13_2
    try clear hcz13_3
    try clear hcz14_0
    try clear hcz14_1
    try clear hcz14_2
    try clear hcz14_3
    try clear hcz16_0
    try clear hcz16_1
    try clear hcz16_2
    try clear hcz16_3
    try clear hcz17_0
    try clear hcz17_1
    try clear hcz17_2
    try clear hcz17_3
    try clear hcz8_0
    try clear hcz8_1
    try clear hcz8_2
    try clear hcz8_3
    try clear hfz10_0
    try clear hfz10_1
    try clear hfz10_2
    try clear hfz10_3
    try clear hfz11_0
    try clear hfz11_1
    try clear hfz11_2
    try clear hfz11_3
    try clear hfz13_0
    try clear hfz13_1
    try clear hfz13_2
    try clear hfz13_3
    try clear hfz14_0
    try clear hfz14_1
    try clear hfz14_2
    try clear hfz14_3
    try clear hfz16_0
    try clear hfz16_1
    try clear hfz16_2
    try clear hfz16_3
    try clear hfz17_0
    try clear hfz17_1
    try clear hfz17_2
    try clear hfz17_3
    try clear hfz8_0
    try clear hfz8_1
    try clear hfz8_2
    try clear hfz8_3
    obtain ⟨kq, x32_1, rfl, HA, HJ1, BK109, HB⟩ := hcut
    cases kq with
    | zero => exact absurd HA.out (by simp [ferryref04_Fit.j0])
    | succ kj1 =>
      have H := HA.out
      clear HA
      simp only [ferryref04_Fit.j0] at H
      by_cases c19 : x32_1 = true
      · subst c19
        replace H := hP_ H
        obtain rfl := Option.some.inj H
        go_wp2
        go_ret
        exact ⟨r3_, beT_⟩
      replace c19 := Bool.eq_false_iff.mpr c19
      subst c19
      replace H := hN_ H
      have H' := Aside0.mk H
      clear H
      go_wp2
      go_loopg [3] kj1 (fun kq v3 w' => ∃ (x3_2 : Int), v3 = .int .i64 x3_2 ∧ Aside0 (ferryref04_Fit.l0 kq x3_2 l0_0 l0_1 a0_2 l0_3 = some r) ∧ Aside0 (kq ≤ kj1) ∧ Aside0 (w'.heap[gb109]? = some (.cells #[(.slice A0_0 l0_0.length c0_0), (.slice A0_1 l0_1.length c0_1), .int .u64 a0_2, (.slice A0_3 l0_3.length c0_3)] 29 (0, 0))) ∧ Aside0 (Below w.heap.size w w'))
      case atStart => exact ⟨(0), r1_, H', ⟨Nat.le_refl _⟩, ⟨bT_ BK109.out⟩, ⟨beT_⟩⟩
      case round =>
        clear H'
        try clear c1
        try clear p2
        try clear c4
        try clear c5
        try clear c6
        try clear c6b0
        try clear c6b1
        try clear c7
        try clear c7b0
        try clear c16
        try clear c19
        try clear hcz10_0
        try clear hcz10_1
        try clear hcz10_2
        try clear hcz10_3
        try clear hcz11_0
        try clear hcz11_1
        try clear hcz11_2
        try clear hcz11_3
        try clear hcz13_0
        try clear hcz13_1
        try clear hcz13_2
        try clear hcz13_3
        try clear hcz14_0
        try clear hcz14_1
        try clear hcz14_2
        try clear hcz14_3
        try clear hcz16_0
        try clear hcz16_1
        try clear hcz16_2
        try clear hcz16_3
        try clear hcz17_0
        try clear hcz17_1
        try clear hcz17_2
        try clear hcz17_3
        try clear hcz8_0
        try clear hcz8_1
        try clear hcz8_2
        try clear hcz8_3
        try clear hfz10_0
        try clear hfz10_1
        try clear hfz10_2
        try clear hfz10_3
        try clear hfz11_0
        try clear hfz11_1
        try clear hfz11_2
        try clear hfz11_3
        try clear hfz13_0
        try clear hfz13_1
        try clear hfz13_2
        try clear hfz13_3
        try clear hfz14_0
        try clear hfz14_1
        try clear hfz14_2
        try clear hfz14_3
        try clear hfz16_0
        try clear hfz16_1
        try clear hfz16_2
        try clear hfz16_3
        try clear hfz17_0
        try clear hfz17_1
        try clear hfz17_2
        try clear hfz17_3
        try clear hfz8_0
        try clear hfz8_1
        try clear hfz8_2
        try clear hfz8_3
        try clear p2
        obtain ⟨x3_2, rfl, HA, HK2, BK109, HB⟩ := hrel
        cases gk with
        | zero => exact absurd HA.out (by simp [ferryref04_Fit.l0])
        | succ k2 =>
          have H := HA.out
          clear HA
          simp only [ferryref04_Fit.l0] at H
          by_cases c20 : x3_2 < (l0_3.length : Int)
          · rw [if_pos c20] at H
            have c20b0 : decide (x3_2 < (l0_3.length : Int)) = true := decide_eq_true c20
            clear c20
            by_cases c21 : 0 ≤ x3_2
            · rw [if_pos c21] at H
              have c21b0 : decide (0 ≤ x3_2) = true := decide_eq_true c21
              clear c21
              have HC22 := Aside0.mk H
              clear H
              obtain ⟨hcz23_0, hcz23_1, hcz23_2, hcz23_3, hfz23_0, hfz23_1, hfz23_2, hfz23_3⟩ := b4_ BK109.out
              have p111 : 0 ≤ (x3_2 : Int) := dT_
              have q111 : x3_2 < (l0_3.length : Int) := dT_
              obtain ⟨ad111, e111, hx111_0, hx111_1⟩ := at_T41 HR0_3.out x3_2 p111 q111
              cases e111
              replace hx111_0 := hX_ hx111_0
              replace hx111_1 := hX_ hx111_1
              replace p111 := eq_true p111
              replace q111 := eq_true q111
              go_upto_region 7 with (first | ((with_reducible refine gate_dst (N := 4) rfl ?_); (try (refine gate_guard (by rfl) ?_; dsimp only)); refine bE_ 4 #[.int .u32 0, .int .i64 0] 41 ?_; intro gb112 hg w24 hbox hb; have BK112 := Aside0.mk hbox; have GW112 := geT_ w.heap.size hg; have GE112 := geT_ w.heap.size hg; have NB109_112 := nlT_ BK109.out hg; have NB112_109 := ngT_ BK109.out hg; replace BK109 := kB_ BK109 hb; replace HB := hB_ hb; clear hb hbox hg; have hnb25 := NB112_109.out; have hnc25 := NB109_112.out; obtain ⟨hcz26_0, hcz26_1, hfz26_0, hfz26_1⟩ := b2_ BK112.out))
              (try simp only [Act.put, List.setIfInBounds_toArray, List.set_cons_zero, List.set_cons_succ])
              go_cut [73] (fun v73 wc => ∃ (kq : Nat) (x73_21 : Bool), v73 = .bool x73_21 ∧ Aside0 (ferryref04_Fit.j2 kq x3_2 x73_21 l0_0 l0_1 a0_2 l0_3 ((rd_T41 l0_3 x3_2).f0) ((rd_T41 l0_3 x3_2).f1) = some r) ∧ Aside0 (kq ≤ k2) ∧ Aside0 (wc.heap[gb109]? = some (.cells #[(.slice A0_0 l0_0.length c0_0), (.slice A0_1 l0_1.length c0_1), .int .u64 a0_2, (.slice (some ad111) l0_3.length c0_3)] 29 (0, 0))) ∧ Aside0 (wc.heap[gb112]? = some (.cells #[.int .u32 ((rd_T41 l0_3 x3_2).f0), .int .i64 ((rd_T41 l0_3 x3_2).f1)] 41 (0, 0))) ∧ Aside0 (Below w.heap.size w wc))
              case first =>
                have H := HC22.out
                clear HC22
                by_cases c27 : ((rd_T41 l0_3 x3_2).f0) ≥ 1048576
                · rw [if_pos c27] at H
                  have c27b0 : decide (1048576 ≤ ((rd_T41 l0_3 x3_2).f0)) = true := decide_eq_true c27
                  clear c27
                  (first | rw [c27b0] | (simp only [i64_w, i32_w]; rw [c27b0]) | skip)
                  have H' := Aside0.mk H
                  clear H
                  try go_wp2
                  have n0_ : Aside0 (((w24.setCell ⟨gb112, 0, none⟩ (.int .u32 ((rd_T41 l0_3 x3_2).f0))).setCell ⟨gb112, 1, none⟩ (.int .i64 ((rd_T41 l0_3 x3_2).f1))).heap[gb109]? = some (.cells #[.slice A0_0 l0_0.length c0_0, .slice A0_1 l0_1.length c0_1, .int .u64 a0_2, .slice (some ad111) l0_3.length c0_3] 29 (0, 0))) := ⟨bfT_ BK109.out⟩
                  have n1_ : Aside0 (((w24.setCell ⟨gb112, 0, none⟩ (.int .u32 ((rd_T41 l0_3 x3_2).f0))).setCell ⟨gb112, 1, none⟩ (.int .i64 ((rd_T41 l0_3 x3_2).f1))).heap[gb112]? = some (.cells #[.int .u32 ((rd_T41 l0_3 x3_2).f0), .int .i64 ((rd_T41 l0_3 x3_2).f1)] 41 (0, 0))) := ⟨kP_ BK112.out⟩
                  have n2_ : Aside0 (Below w.heap.size w ((w24.setCell ⟨gb112, 0, none⟩ (.int .u32 ((rd_T41 l0_3 x3_2).f0))).setCell ⟨gb112, 1, none⟩ (.int .i64 ((rd_T41 l0_3 x3_2).f1)))) := ⟨beT_⟩
                  (try clear BK109)
                  (try clear BK112)
                  (try clear HB)
                  generalize ((w24.setCell ⟨gb112, 0, none⟩ (.int .u32 ((rd_T41 l0_3 x3_2).f0))).setCell ⟨gb112, 1, none⟩ (.int .i64 ((rd_T41 l0_3 x3_2).f1))) = w28 at n0_ n1_ n2_ ⊢
                  have BK109 := n0_
                  have BK112 := n1_
                  have HB := n2_
                  clear n0_ n1_ n2_
                  replace BK109 := Aside0.mk (blk_drew BK109.out)
                  replace BK112 := Aside0.mk (blk_drew BK112.out)
                  replace HB := Aside0.mk (below_drew1 HB.out)
                  refine start_ (n := 29) (S := fun w' => w'.cell? ⟨gb112, 0, none⟩ = some (.int .u32 ((rd_T41 l0_3 x3_2).f0)) ∧ w'.cell? ⟨gb112, 1, none⟩ = some (.int .i64 ((rd_T41 l0_3 x3_2).f1))) (ds := []) (mb_ 29 0) (by kernel_rfl) rfl rfl ⟨(blk_cell BK112.out 0).trans rfl, (blk_cell BK112.out 1).trans rfl⟩ (fun hHeld => ?_); refine with_tabW ferryref04_Fit.tab7 ferryref04_Fit.bits7 (fun HT_ HW_ => ?_)
                  generalize w28.drew = w29 at BK109 BK112 HB hHeld ⊢
                  refine pS_ 0 45 (mb_ 29 1) ?_
                  refine t2S_ 1 46 (mb_ 29 3) ?_
                  refine pS_ 2 47 (mb_ 29 7) ?_
                  refine pS_ 3 48 (mb_ 29 15) ?_
                  refine uS_ 4 49 (mb_ 29 31) ?_
                  refine uS_ 5 50 (mb_ 29 63) ?_
                  refine uS_ 6 51 (mb_ 29 127) ?_
                  refine pS_ 7 52 (mb_ 29 255) ?_
                  refine pS_ 8 53 (mb_ 29 511) ?_
                  refine uS_ 9 54 (mb_ 29 1023) ?_
                  refine uS_ 10 55 (mb_ 29 2047) ?_
                  refine uS_ 11 56 (mb_ 29 4095) ?_
                  refine pS_ 12 57 (mb_ 29 8191) ?_
                  refine pS_ 13 58 (mb_ 29 16383) ?_
                  refine uS_ 14 59 (mb_ 29 32767) ?_
                  refine uS_ 15 60 (mb_ 29 65535) ?_
                  refine uS_ 16 61 (mb_ 29 131071) ?_
                  refine uS_ 17 62 (mb_ 29 262143) ?_
                  refine uS_ 18 63 (mb_ 29 524287) ?_
                  refine uS_ 19 64 (mb_ 29 1048575) ?_
                  refine uS_ 20 65 (mb_ 29 2097151) ?_
                  refine uS_ 21 66 (mb_ 29 4194303) ?_
                  refine uS_ 22 67 (mb_ 29 8388607) ?_
                  refine uS_ 23 68 (mb_ 29 16777215) ?_
                  refine uS_ 24 69 (mb_ 29 33554431) ?_
                  refine uS_ 25 70 (mb_ 29 67108863) ?_
                  refine uS_ 26 71 (mb_ 29 134217727) ?_
                  refine uS_ 27 72 (mb_ 29 268435455) ?_
                  refine pS_ 28 73 (mb_ 29 536870911) ?_
                  refine done_ (done_of HT_.out (by kernel_rfl)) ?_
                  try go_wp2
                  go_meet
                  case rel => exact ⟨_, (true), r1_, H', ⟨by have := HJ1.out; have := HK2.out; first | omega | exact Nat.le_refl _⟩, ⟨bT_ BK109.out⟩, ⟨bT_ BK112.out⟩, ⟨beT_⟩⟩
                rw [if_neg c27] at H
                have c27b0 : decide (1048576 ≤ ((rd_T41 l0_3 x3_2).f0)) = false := decide_eq_false c27
                clear c27
                (first | rw [c27b0] | (simp only [i64_w, i32_w]; rw [c27b0]) | skip)
                by_cases c30 : ((rd_T41 l0_3 x3_2).f1) < 0
                · rw [if_pos c30] at H
                  have c30b0 : decide (((rd_T41 l0_3 x3_2).f1) < 0) = true := decide_eq_true c30
                  clear c30
                  have H' := Aside0.mk H
                  clear H
                  try go_wp2
                  have n0_ : Aside0 (((w24.setCell ⟨gb112, 0, none⟩ (.int .u32 ((rd_T41 l0_3 x3_2).f0))).setCell ⟨gb112, 1, none⟩ (.int .i64 ((rd_T41 l0_3 x3_2).f1))).heap[gb109]? = some (.cells #[.slice A0_0 l0_0.length c0_0, .slice A0_1 l0_1.length c0_1, .int .u64 a0_2, .slice (some ad111) l0_3.length c0_3] 29 (0, 0))) := ⟨bfT_ BK109.out⟩
                  have n1_ : Aside0 (((w24.setCell ⟨gb112, 0, none⟩ (.int .u32 ((rd_T41 l0_3 x3_2).f0))).setCell ⟨gb112, 1, none⟩ (.int .i64 ((rd_T41 l0_3 x3_2).f1))).heap[gb112]? = some (.cells #[.int .u32 ((rd_T41 l0_3 x3_2).f0), .int .i64 ((rd_T41 l0_3 x3_2).f1)] 41 (0, 0))) := ⟨kP_ BK112.out⟩
                  have n2_ : Aside0 (Below w.heap.size w ((w24.setCell ⟨gb112, 0, none⟩ (.int .u32 ((rd_T41 l0_3 x3_2).f0))).setCell ⟨gb112, 1, none⟩ (.int .i64 ((rd_T41 l0_3 x3_2).f1)))) := ⟨beT_⟩
                  (try clear BK109)
                  (try clear BK112)
                  (try clear HB)
                  generalize ((w24.setCell ⟨gb112, 0, none⟩ (.int .u32 ((rd_T41 l0_3 x3_2).f0))).setCell ⟨gb112, 1, none⟩ (.int .i64 ((rd_T41 l0_3 x3_2).f1))) = w31 at n0_ n1_ n2_ ⊢
                  have BK109 := n0_
                  have BK112 := n1_
                  have HB := n2_
                  clear n0_ n1_ n2_
                  replace BK109 := Aside0.mk (blk_drew BK109.out)
                  replace BK112 := Aside0.mk (blk_drew BK112.out)
                  replace HB := Aside0.mk (below_drew1 HB.out)
                  refine start_ (n := 29) (S := fun w' => w'.cell? ⟨gb112, 0, none⟩ = some (.int .u32 ((rd_T41 l0_3 x3_2).f0)) ∧ w'.cell? ⟨gb112, 1, none⟩ = some (.int .i64 ((rd_T41 l0_3 x3_2).f1))) (ds := []) (mb_ 29 0) (by kernel_rfl) rfl rfl ⟨(blk_cell BK112.out 0).trans rfl, (blk_cell BK112.out 1).trans rfl⟩ (fun hHeld => ?_); refine with_tabW ferryref04_Fit.tab7 ferryref04_Fit.bits7 (fun HT_ HW_ => ?_)
                  generalize w31.drew = w32 at BK109 BK112 HB hHeld ⊢
                  refine pS_ 0 45 (mb_ 29 1) ?_
                  refine t2S_ 1 46 (mb_ 29 3) ?_
                  refine pS_ 2 47 (mb_ 29 7) ?_
                  refine pS_ 3 48 (mb_ 29 15) ?_
                  refine pS_ 4 49 (mb_ 29 31) ?_
                  refine t2S_ 5 50 (mb_ 29 63) ?_
                  refine pS_ 6 51 (mb_ 29 127) ?_
                  refine pS_ 7 52 (mb_ 29 255) ?_
                  refine pS_ 8 53 (mb_ 29 511) ?_
                  refine uS_ 9 54 (mb_ 29 1023) ?_
                  refine uS_ 10 55 (mb_ 29 2047) ?_
                  refine uS_ 11 56 (mb_ 29 4095) ?_
                  refine pS_ 12 57 (mb_ 29 8191) ?_
                  refine pS_ 13 58 (mb_ 29 16383) ?_
                  refine uS_ 14 59 (mb_ 29 32767) ?_
                  refine uS_ 15 60 (mb_ 29 65535) ?_
                  refine uS_ 16 61 (mb_ 29 131071) ?_
                  refine uS_ 17 62 (mb_ 29 262143) ?_
                  refine uS_ 18 63 (mb_ 29 524287) ?_
                  refine uS_ 19 64 (mb_ 29 1048575) ?_
                  refine uS_ 20 65 (mb_ 29 2097151) ?_
                  refine uS_ 21 66 (mb_ 29 4194303) ?_
                  refine uS_ 22 67 (mb_ 29 8388607) ?_
                  refine uS_ 23 68 (mb_ 29 16777215) ?_
                  refine uS_ 24 69 (mb_ 29 33554431) ?_
                  refine uS_ 25 70 (mb_ 29 67108863) ?_
                  refine uS_ 26 71 (mb_ 29 134217727) ?_
                  refine uS_ 27 72 (mb_ 29 268435455) ?_
                  refine pS_ 28 73 (mb_ 29 536870911) ?_
                  refine done_ (done_of HT_.out (by kernel_rfl)) ?_
                  try go_wp2
                  go_meet
                  case rel => exact ⟨_, (true), r1_, H', ⟨by have := HJ1.out; have := HK2.out; first | omega | exact Nat.le_refl _⟩, ⟨bT_ BK109.out⟩, ⟨bT_ BK112.out⟩, ⟨beT_⟩⟩
                rw [if_neg c30] at H
                have c30b0 : decide (((rd_T41 l0_3 x3_2).f1) < 0) = false := decide_eq_false c30
                clear c30
                by_cases c33 : ((rd_T41 l0_3 x3_2).f1) > 7
                · rw [if_pos c33] at H
                  have c33b0 : decide (7 < ((rd_T41 l0_3 x3_2).f1)) = true := decide_eq_true c33
                  clear c33
                  have H' := Aside0.mk H
                  clear H
                  try go_wp2
                  have n0_ : Aside0 (((w24.setCell ⟨gb112, 0, none⟩ (.int .u32 ((rd_T41 l0_3 x3_2).f0))).setCell ⟨gb112, 1, none⟩ (.int .i64 ((rd_T41 l0_3 x3_2).f1))).heap[gb109]? = some (.cells #[.slice A0_0 l0_0.length c0_0, .slice A0_1 l0_1.length c0_1, .int .u64 a0_2, .slice (some ad111) l0_3.length c0_3] 29 (0, 0))) := ⟨bfT_ BK109.out⟩
                  have n1_ : Aside0 (((w24.setCell ⟨gb112, 0, none⟩ (.int .u32 ((rd_T41 l0_3 x3_2).f0))).setCell ⟨gb112, 1, none⟩ (.int .i64 ((rd_T41 l0_3 x3_2).f1))).heap[gb112]? = some (.cells #[.int .u32 ((rd_T41 l0_3 x3_2).f0), .int .i64 ((rd_T41 l0_3 x3_2).f1)] 41 (0, 0))) := ⟨kP_ BK112.out⟩
                  have n2_ : Aside0 (Below w.heap.size w ((w24.setCell ⟨gb112, 0, none⟩ (.int .u32 ((rd_T41 l0_3 x3_2).f0))).setCell ⟨gb112, 1, none⟩ (.int .i64 ((rd_T41 l0_3 x3_2).f1)))) := ⟨beT_⟩
                  (try clear BK109)
                  (try clear BK112)
                  (try clear HB)
                  generalize ((w24.setCell ⟨gb112, 0, none⟩ (.int .u32 ((rd_T41 l0_3 x3_2).f0))).setCell ⟨gb112, 1, none⟩ (.int .i64 ((rd_T41 l0_3 x3_2).f1))) = w34 at n0_ n1_ n2_ ⊢
                  have BK109 := n0_
                  have BK112 := n1_
                  have HB := n2_
                  clear n0_ n1_ n2_
                  replace BK109 := Aside0.mk (blk_drew BK109.out)
                  replace BK112 := Aside0.mk (blk_drew BK112.out)
                  replace HB := Aside0.mk (below_drew1 HB.out)
                  refine start_ (n := 29) (S := fun w' => w'.cell? ⟨gb112, 0, none⟩ = some (.int .u32 ((rd_T41 l0_3 x3_2).f0)) ∧ w'.cell? ⟨gb112, 1, none⟩ = some (.int .i64 ((rd_T41 l0_3 x3_2).f1))) (ds := []) (mb_ 29 0) (by kernel_rfl) rfl rfl ⟨(blk_cell BK112.out 0).trans rfl, (blk_cell BK112.out 1).trans rfl⟩ (fun hHeld => ?_); refine with_tabW ferryref04_Fit.tab7 ferryref04_Fit.bits7 (fun HT_ HW_ => ?_)
                  generalize w34.drew = w35 at BK109 BK112 HB hHeld ⊢
                  refine pS_ 0 45 (mb_ 29 1) ?_
                  refine t2S_ 1 46 (mb_ 29 3) ?_
                  refine pS_ 2 47 (mb_ 29 7) ?_
                  refine pS_ 3 48 (mb_ 29 15) ?_
                  refine pS_ 4 49 (mb_ 29 31) ?_
                  refine t2S_ 5 50 (mb_ 29 63) ?_
                  refine pS_ 6 51 (mb_ 29 127) ?_
                  refine pS_ 7 52 (mb_ 29 255) ?_
                  refine pS_ 8 53 (mb_ 29 511) ?_
                  refine pS_ 9 54 (mb_ 29 1023) ?_
                  refine t2S_ 10 55 (mb_ 29 2047) ?_
                  refine pS_ 11 56 (mb_ 29 4095) ?_
                  refine pS_ 12 57 (mb_ 29 8191) ?_
                  refine pS_ 13 58 (mb_ 29 16383) ?_
                  refine uS_ 14 59 (mb_ 29 32767) ?_
                  refine uS_ 15 60 (mb_ 29 65535) ?_
                  refine uS_ 16 61 (mb_ 29 131071) ?_
                  refine uS_ 17 62 (mb_ 29 262143) ?_
                  refine uS_ 18 63 (mb_ 29 524287) ?_
                  refine uS_ 19 64 (mb_ 29 1048575) ?_
                  refine uS_ 20 65 (mb_ 29 2097151) ?_
                  refine uS_ 21 66 (mb_ 29 4194303) ?_
                  refine uS_ 22 67 (mb_ 29 8388607) ?_
                  refine uS_ 23 68 (mb_ 29 16777215) ?_
                  refine uS_ 24 69 (mb_ 29 33554431) ?_
                  refine uS_ 25 70 (mb_ 29 67108863) ?_
                  refine uS_ 26 71 (mb_ 29 134217727) ?_
                  refine uS_ 27 72 (mb_ 29 268435455) ?_
                  refine pS_ 28 73 (mb_ 29 536870911) ?_
                  refine done_ (done_of HT_.out (by kernel_rfl)) ?_
                  try go_wp2
                  go_meet
                  case rel => exact ⟨_, (true), r1_, H', ⟨by have := HJ1.out; have := HK2.out; first | omega | exact Nat.le_refl _⟩, ⟨bT_ BK109.out⟩, ⟨bT_ BK112.out⟩, ⟨beT_⟩⟩
                rw [if_neg c33] at H
                have c33b0 : decide (7 < ((rd_T41 l0_3 x3_2).f1)) = false := decide_eq_false c33
                clear c33
                by_cases c36 : x3_2 > 0
                · rw [if_pos c36] at H
                  have c36b0 : decide (0 < x3_2) = true := decide_eq_true c36
                  clear c36
                  obtain ⟨ji37, hji37⟩ : ∃ j_ : Int, (wrap64 (x3_2 - 1)) = j_ := ⟨_, rfl⟩
                  replace H : (if 0 ≤ (ji37) then (if (ji37) < (l0_3.length : Int) then (ferryref04_Fit.j2 k2 x3_2 (decide (((rd_T41 l0_3 (ji37)).f0) ≥ ((rd_T41 l0_3 x3_2).f0))) l0_0 l0_1 a0_2 l0_3 ((rd_T41 l0_3 x3_2).f0) ((rd_T41 l0_3 x3_2).f1)) else (none)) else (none)) = some r := by first | (rw [hji37] at H; exact H) | (simp only [hji37] at H ⊢; exact H)
                  have hji37w : (IntKind.i64.wrap (x3_2 - 1)) = ji37 := (i64_w _).trans hji37
                  by_cases c38 : 0 ≤ (ji37)
                  · rw [if_pos c38] at H
                    have c38b0 : decide (0 ≤ (ji37)) = true := decide_eq_true c38
                    clear c38
                    by_cases c39 : (ji37) < (l0_3.length : Int)
                    · rw [if_pos c39] at H
                      have c39b0 : decide ((ji37) < (l0_3.length : Int)) = true := decide_eq_true c39
                      clear c39
                      have H' := Aside0.mk H
                      clear H
                      try go_wp2
                      have n0_ : Aside0 (((w24.setCell ⟨gb112, 0, none⟩ (.int .u32 ((rd_T41 l0_3 x3_2).f0))).setCell ⟨gb112, 1, none⟩ (.int .i64 ((rd_T41 l0_3 x3_2).f1))).heap[gb109]? = some (.cells #[.slice A0_0 l0_0.length c0_0, .slice A0_1 l0_1.length c0_1, .int .u64 a0_2, .slice (some ad111) l0_3.length c0_3] 29 (0, 0))) := ⟨bfT_ BK109.out⟩
                      have n1_ : Aside0 (((w24.setCell ⟨gb112, 0, none⟩ (.int .u32 ((rd_T41 l0_3 x3_2).f0))).setCell ⟨gb112, 1, none⟩ (.int .i64 ((rd_T41 l0_3 x3_2).f1))).heap[gb112]? = some (.cells #[.int .u32 ((rd_T41 l0_3 x3_2).f0), .int .i64 ((rd_T41 l0_3 x3_2).f1)] 41 (0, 0))) := ⟨kP_ BK112.out⟩
                      have n2_ : Aside0 (Below w.heap.size w ((w24.setCell ⟨gb112, 0, none⟩ (.int .u32 ((rd_T41 l0_3 x3_2).f0))).setCell ⟨gb112, 1, none⟩ (.int .i64 ((rd_T41 l0_3 x3_2).f1)))) := ⟨beT_⟩
                      (try clear BK109)
                      (try clear BK112)
                      (try clear HB)
                      generalize ((w24.setCell ⟨gb112, 0, none⟩ (.int .u32 ((rd_T41 l0_3 x3_2).f0))).setCell ⟨gb112, 1, none⟩ (.int .i64 ((rd_T41 l0_3 x3_2).f1))) = w40 at n0_ n1_ n2_ ⊢
                      have BK109 := n0_
                      have BK112 := n1_
                      have HB := n2_
                      clear n0_ n1_ n2_
                      replace BK109 := Aside0.mk (blk_drew BK109.out)
                      replace BK112 := Aside0.mk (blk_drew BK112.out)
                      replace HB := Aside0.mk (below_drew1 HB.out)
                      have p113 : 0 ≤ ((ji37) : Int) := dT_
                      have q113 : (ji37) < (l0_3.length : Int) := dT_
                      obtain ⟨ad113, e113, hx113_0, hx113_1⟩ := at_T41 HR0_3.out (ji37) p113 q113
                      have hw113_1 := hx113_1
                      have hw113_0 := hx113_0
                      obtain rfl : ad111 = ad113 := (by injection e113)
                      replace hx113_0 := hX_ hx113_0
                      replace hx113_1 := hX_ hx113_1
                      replace p113 := eq_true p113
                      replace q113 := eq_true q113
                      refine start_ (n := 29) (S := fun w' => w'.cell? ⟨gb112, 0, none⟩ = some (.int .u32 ((rd_T41 l0_3 x3_2).f0)) ∧ w'.cell? ⟨gb112, 1, none⟩ = some (.int .i64 ((rd_T41 l0_3 x3_2).f1)) ∧ w'.cell? ⟨gb109, 0, none⟩ = some (.slice A0_0 l0_0.length c0_0) ∧ w'.cell? ⟨gb109, 1, none⟩ = some (.slice A0_1 l0_1.length c0_1) ∧ w'.cell? ⟨gb109, 2, none⟩ = some (.int .u64 a0_2) ∧ w'.cell? ⟨gb109, 3, none⟩ = some (.slice (some ad111) l0_3.length c0_3) ∧ w'.cell? (ad111.add (((ji37)).toNat * 2)) = some (.int .u32 ((rd_T41 l0_3 (ji37)).f0)) ∧ w'.cell? ⟨(ad111.add (((ji37)).toNat * 2)).block, (ad111.add (((ji37)).toNat * 2)).off + 1, none⟩ = some (.int .i64 ((rd_T41 l0_3 (ji37)).f1))) (ds := []) (mb_ 29 0) (by kernel_rfl) rfl rfl ⟨(blk_cell BK112.out 0).trans rfl, (blk_cell BK112.out 1).trans rfl, (blk_cell BK109.out 0).trans rfl, (blk_cell BK109.out 1).trans rfl, (blk_cell BK109.out 2).trans rfl, (blk_cell BK109.out 3).trans rfl, ((HB.out.cell (World.block_lt_of_cell? w _ hw113_0)).trans hw113_0), ((HB.out.cell (World.block_lt_of_cell? w _ hw113_1)).trans hw113_1)⟩ (fun hHeld => ?_); refine with_tabW ferryref04_Fit.tab7 ferryref04_Fit.bits7 (fun HT_ HW_ => ?_)
                      generalize w40.drew = w41 at BK109 BK112 HB hx113_0 hx113_1 hHeld ⊢
                      refine pS_ 0 45 (mb_ 29 1) ?_
                      refine t8S_ 1 46 (mb_ 29 3) ?_
                      refine pS_ 2 47 (mb_ 29 7) ?_
                      refine pS_ 3 48 (mb_ 29 15) ?_
                      refine pS_ 4 49 (mb_ 29 31) ?_
                      refine t8S_ 5 50 (mb_ 29 63) ?_
                      refine pS_ 6 51 (mb_ 29 127) ?_
                      refine pS_ 7 52 (mb_ 29 255) ?_
                      refine pS_ 8 53 (mb_ 29 511) ?_
                      refine pS_ 9 54 (mb_ 29 1023) ?_
                      refine t8S_ 10 55 (mb_ 29 2047) ?_
                      refine pS_ 11 56 (mb_ 29 4095) ?_
                      refine pS_ 12 57 (mb_ 29 8191) ?_
                      refine pS_ 13 58 (mb_ 29 16383) ?_
                      refine pS_ 14 59 (mb_ 29 32767) ?_
                      refine pS_ 15 60 (mb_ 29 65535) ?_
                      refine pS_ 16 61 (mb_ 29 131071) ?_
                      refine pS_ 17 62 (mb_ 29 262143) ?_
                      refine pS_ 19 64 (mb_ 29 786431) ?_
                      refine pS_ 20 65 (mb_ 29 1835007) ?_
                      refine pS_ 24 69 (mb_ 29 18612223) ?_
                      refine t8S_ 18 63 (mb_ 29 18874367) ?_
                      refine pS_ 21 66 (mb_ 29 20971519) ?_
                      refine pS_ 22 67 (mb_ 29 25165823) ?_
                      refine t8S_ 23 68 (mb_ 29 33554431) ?_
                      refine t8S_ 25 70 (mb_ 29 67108863) ?_
                      refine pS_ 26 71 (mb_ 29 134217727) ?_
                      refine pS_ 27 72 (mb_ 29 268435455) ?_
                      refine pS_ 28 73 (mb_ 29 536870911) ?_
                      refine done_ (done_of HT_.out (by kernel_rfl)) ?_
                      try go_wp2
                      go_meet
                      case rel => exact ⟨_, (decide (((rd_T41 l0_3 (ji37)).f0) ≥ ((rd_T41 l0_3 x3_2).f0))), (by first | rfl | (simp; done) | (simp only [← hji37, u64w, Int.add_emod_emod, Int.emod_add_emod]; done) | (simp only [← hji37] <;> (first | rfl | simp)) | (simp [*]; done)), H', ⟨by have := HJ1.out; have := HK2.out; first | omega | exact Nat.le_refl _⟩, ⟨bT_ BK109.out⟩, ⟨bT_ BK112.out⟩, ⟨beT_⟩⟩
                    rw [if_neg c39] at H
                    exact absurd H (by simp)
                  rw [if_neg c38] at H
                  exact absurd H (by simp)
                rw [if_neg c36] at H
                have c36b0 : decide (0 < x3_2) = false := decide_eq_false c36
                clear c36
                have H' := Aside0.mk H
                clear H
                try go_wp2
                have n0_ : Aside0 (((w24.setCell ⟨gb112, 0, none⟩ (.int .u32 ((rd_T41 l0_3 x3_2).f0))).setCell ⟨gb112, 1, none⟩ (.int .i64 ((rd_T41 l0_3 x3_2).f1))).heap[gb109]? = some (.cells #[.slice A0_0 l0_0.length c0_0, .slice A0_1 l0_1.length c0_1, .int .u64 a0_2, .slice (some ad111) l0_3.length c0_3] 29 (0, 0))) := ⟨bfT_ BK109.out⟩
                have n1_ : Aside0 (((w24.setCell ⟨gb112, 0, none⟩ (.int .u32 ((rd_T41 l0_3 x3_2).f0))).setCell ⟨gb112, 1, none⟩ (.int .i64 ((rd_T41 l0_3 x3_2).f1))).heap[gb112]? = some (.cells #[.int .u32 ((rd_T41 l0_3 x3_2).f0), .int .i64 ((rd_T41 l0_3 x3_2).f1)] 41 (0, 0))) := ⟨kP_ BK112.out⟩
                have n2_ : Aside0 (Below w.heap.size w ((w24.setCell ⟨gb112, 0, none⟩ (.int .u32 ((rd_T41 l0_3 x3_2).f0))).setCell ⟨gb112, 1, none⟩ (.int .i64 ((rd_T41 l0_3 x3_2).f1)))) := ⟨beT_⟩
                (try clear BK109)
                (try clear BK112)
                (try clear HB)
                generalize ((w24.setCell ⟨gb112, 0, none⟩ (.int .u32 ((rd_T41 l0_3 x3_2).f0))).setCell ⟨gb112, 1, none⟩ (.int .i64 ((rd_T41 l0_3 x3_2).f1))) = w42 at n0_ n1_ n2_ ⊢
                have BK109 := n0_
                have BK112 := n1_
                have HB := n2_
                clear n0_ n1_ n2_
                replace BK109 := Aside0.mk (blk_drew BK109.out)
                replace BK112 := Aside0.mk (blk_drew BK112.out)
                replace HB := Aside0.mk (below_drew1 HB.out)
                refine start_ (n := 29) (S := fun w' => w'.cell? ⟨gb112, 0, none⟩ = some (.int .u32 ((rd_T41 l0_3 x3_2).f0)) ∧ w'.cell? ⟨gb112, 1, none⟩ = some (.int .i64 ((rd_T41 l0_3 x3_2).f1))) (ds := []) (mb_ 29 0) (by kernel_rfl) rfl rfl ⟨(blk_cell BK112.out 0).trans rfl, (blk_cell BK112.out 1).trans rfl⟩ (fun hHeld => ?_); refine with_tabW ferryref04_Fit.tab7 ferryref04_Fit.bits7 (fun HT_ HW_ => ?_)
                generalize w42.drew = w43 at BK109 BK112 HB hHeld ⊢
                refine pS_ 0 45 (mb_ 29 1) ?_
                refine t2S_ 1 46 (mb_ 29 3) ?_
                refine pS_ 2 47 (mb_ 29 7) ?_
                refine pS_ 3 48 (mb_ 29 15) ?_
                refine pS_ 4 49 (mb_ 29 31) ?_
                refine t2S_ 5 50 (mb_ 29 63) ?_
                refine pS_ 6 51 (mb_ 29 127) ?_
                refine pS_ 7 52 (mb_ 29 255) ?_
                refine pS_ 8 53 (mb_ 29 511) ?_
                refine pS_ 9 54 (mb_ 29 1023) ?_
                refine t2S_ 10 55 (mb_ 29 2047) ?_
                refine pS_ 11 56 (mb_ 29 4095) ?_
                refine pS_ 12 57 (mb_ 29 8191) ?_
                refine pS_ 13 58 (mb_ 29 16383) ?_
                refine pS_ 14 59 (mb_ 29 32767) ?_
                refine pS_ 15 60 (mb_ 29 65535) ?_
                refine pS_ 16 61 (mb_ 29 131071) ?_
                refine uS_ 17 62 (mb_ 29 262143) ?_
                refine uS_ 18 63 (mb_ 29 524287) ?_
                refine uS_ 19 64 (mb_ 29 1048575) ?_
                refine uS_ 20 65 (mb_ 29 2097151) ?_
                refine uS_ 21 66 (mb_ 29 4194303) ?_
                refine uS_ 22 67 (mb_ 29 8388607) ?_
                refine uS_ 23 68 (mb_ 29 16777215) ?_
                refine uS_ 24 69 (mb_ 29 33554431) ?_
                refine uS_ 25 70 (mb_ 29 67108863) ?_
                refine uS_ 26 71 (mb_ 29 134217727) ?_
                refine pS_ 27 72 (mb_ 29 268435455) ?_
                refine pS_ 28 73 (mb_ 29 536870911) ?_
                refine done_ (done_of HT_.out (by kernel_rfl)) ?_
                try go_wp2
                go_meet
                case rel => exact ⟨_, (false), r1_, H', ⟨by have := HJ1.out; have := HK2.out; first | omega | exact Nat.le_refl _⟩, ⟨bT_ BK109.out⟩, ⟨bT_ BK112.out⟩, ⟨beT_⟩⟩
              case rest =>
                clear HC22
                try clear p1
                try clear q1
                try clear hx1
                try clear p2
                try clear c3
                try clear p6
                try clear p11
                try clear q11
                try clear hx11
                try clear c33
                try clear c33b0
                try clear c36
                try clear c36b0
                try clear c38
                try clear c38b0
                try clear c39
                try clear c39b0
                try clear hx113_0
                try clear hx113_1
                try clear p113
                try clear q113
                obtain ⟨kq, x73_21, rfl, HA, HJ21, BK109, BK112, HB⟩ := hcut
                cases kq with
                | zero => exact absurd HA.out (by simp [ferryref04_Fit.j2])
                | succ kj21 =>
                  have H := HA.out
                  clear HA
                  simp only [ferryref04_Fit.j2] at H
                  by_cases c44 : x73_21 = true
                  · subst c44
                    replace H := hP_ H
                    obtain rfl := Option.some.inj H
                    go_wp2
                    go_ret
                    exact ⟨r3_, beT_⟩
                  replace c44 := Bool.eq_false_iff.mpr c44
                  subst c44
                  replace H := hN_ H
                  replace H := Option.bind_eq_some_iff.mp H
                  obtain ⟨t114, A450, H⟩ := H
                  have A45 := Aside0.mk A450
                  clear A450
                  by_cases c46 : t114 < 0
                  · rw [if_pos c46] at H
                    have c46b0 : decide (t114 < 0) = true := decide_eq_true c46
                    clear c46
                    obtain rfl := Option.some.inj H
                    have hnb47 := NB109_112.out
                    have hnc47 := NB112_109.out
                    obtain ⟨hcz48_0, hcz48_1, hcz48_2, hcz48_3, hfz48_0, hfz48_1, hfz48_2, hfz48_3⟩ := b4_ BK109.out
                    obtain ⟨hcz49_0, hcz49_1, hfz49_0, hfz49_1⟩ := b2_ BK112.out
                    go_wp2_with (first | ((with_reducible refine gate_callee (f := 45) rfl ?_); refine gL_ (some 84) Try.func45 #[.agg #[.slice A0_0 l0_0.length c0_0, .slice A0_1 l0_1.length c0_1], .int .u64 (IntKind.u64.wrap (Int.tdiv (IntKind.u64.wrap (a0_2 + (IntKind.u64.wrap ((IntKind.u64.wrap (((rd_T41 l0_3 x3_2).f0))) * 4096)))) 16384))] ?_; (with_reducible refine (ferryref03_Place.calls kj21 _ _ l0_0 _ _ l0_1 (IntKind.u64.wrap (Int.tdiv (IntKind.u64.wrap (a0_2 + (IntKind.u64.wrap ((IntKind.u64.wrap (((rd_T41 l0_3 x3_2).f0))) * 4096)))) 16384)) t114 _ ?side1 ?side2 ?side3 ?side4 A45.out).mono ?_); (case side1 => exact cT_ (Kd.C_below HR0_0.out HB.out)); (case side2 => exact HC0_0.out); (case side3 => exact cT_ (Kd.C_below HR0_1.out HB.out)); (case side4 => exact HC0_1.out); rintro e w50 ⟨rfl, hb⟩; refine ⟨_, rfl, ?_⟩; replace BK109 := kB_ BK109 hb; replace BK112 := kB_ BK112 hb; replace HB := hB_ hb; (try clear hb); (try clear hb2); (try clear hk); (try clear hi)))
                    go_ret
                    exact ⟨r3_, beT_⟩
                  rw [if_neg c46] at H
                  have c46b0 : decide (t114 < 0) = false := decide_eq_false c46
                  clear c46
                  have H' := Aside0.mk H
                  clear H
                  have hnb51 := NB109_112.out
                  have hnc51 := NB112_109.out
                  obtain ⟨hcz52_0, hcz52_1, hcz52_2, hcz52_3, hfz52_0, hfz52_1, hfz52_2, hfz52_3⟩ := b4_ BK109.out
                  obtain ⟨hcz53_0, hcz53_1, hfz53_0, hfz53_1⟩ := b2_ BK112.out
                  go_wp2_with (first | ((with_reducible refine gate_callee (f := 45) rfl ?_); refine gL_ (some 84) Try.func45 #[.agg #[.slice A0_0 l0_0.length c0_0, .slice A0_1 l0_1.length c0_1], .int .u64 (IntKind.u64.wrap (Int.tdiv (IntKind.u64.wrap (a0_2 + (IntKind.u64.wrap ((IntKind.u64.wrap (((rd_T41 l0_3 x3_2).f0))) * 4096)))) 16384))] ?_; (with_reducible refine (ferryref03_Place.calls kj21 _ _ l0_0 _ _ l0_1 (IntKind.u64.wrap (Int.tdiv (IntKind.u64.wrap (a0_2 + (IntKind.u64.wrap ((IntKind.u64.wrap (((rd_T41 l0_3 x3_2).f0))) * 4096)))) 16384)) t114 _ ?side1 ?side2 ?side3 ?side4 A45.out).mono ?_); (case side1 => exact cT_ (Kd.C_below HR0_0.out HB.out)); (case side2 => exact HC0_0.out); (case side3 => exact cT_ (Kd.C_below HR0_1.out HB.out)); (case side4 => exact HC0_1.out); rintro e w54 ⟨rfl, hb⟩; refine ⟨_, rfl, ?_⟩; replace BK109 := kB_ BK109 hb; replace BK112 := kB_ BK112 hb; replace HB := hB_ hb; (try clear hb); (try clear hb2); (try clear hk); (try clear hi)))
                  go_roundg kj21
                  case measure => have := HJ1.out; have := HK2.out; have := HJ21.out; omega
                  case rel => exact ⟨(wrap64 (x3_2 + 1)), r1_, H', ⟨by have := HJ1.out; have := HK2.out; have := HJ21.out; omega⟩, ⟨bT_ BK109.out⟩, ⟨beT_⟩⟩
            rw [if_neg c21] at H
            exact absurd H (by simp)
          rw [if_neg c20] at H
          have c20b0 : decide (x3_2 < (l0_3.length : Int)) = false := decide_eq_false c20
          clear c20
          have H' := Aside0.mk H
          clear H
          obtain ⟨hcz55_0, hcz55_1, hcz55_2, hcz55_3, hfz55_0, hfz55_1, hfz55_2, hfz55_3⟩ := b4_ BK109.out
          go_wp2
          go_loopg [5] k2 (fun kq v5 w' => ∃ (x5_3 : Int), v5 = .int .i64 x5_3 ∧ Aside0 (ferryref04_Fit.l1 kq x5_3 l0_0 l0_1 a0_2 l0_3 = some r) ∧ Aside0 (kq ≤ k2) ∧ Aside0 (w'.heap[gb109]? = some (.cells #[(.slice A0_0 l0_0.length c0_0), (.slice A0_1 l0_1.length c0_1), .int .u64 a0_2, (.slice A0_3 l0_3.length c0_3)] 29 (0, 0))) ∧ Aside0 (Below w.heap.size w w'))
          case atStart => exact ⟨(0), r1_, H', ⟨Nat.le_refl _⟩, ⟨bT_ BK109.out⟩, ⟨beT_⟩⟩
          case round =>
            clear H'
            try clear p1
            try clear q1
            try clear hx1
            try clear c2
            try clear p2
            try clear c3
            try clear c4
            try clear c5
            try clear p6
            try clear p11
            try clear q11
            try clear hx11
            try clear c20
            try clear c20b0
            try clear c21
            try clear c33
            try clear c33b0
            try clear c36
            try clear c36b0
            try clear c38
            try clear c38b0
            try clear c39
            try clear c39b0
            try clear c44
            try clear c45
            try clear c46
            try clear c46b0
            try clear c47
            try clear c51
            try clear hcz48_0
            try clear hcz48_1
            try clear hcz48_2
            try clear hcz48_3
            try clear hcz49_0
            try clear hcz49_1
            try clear hcz52_0
            try clear hcz52_1
            try clear hcz52_2
            try clear hcz52_3
            try clear hcz53_0
            try clear hcz53_1
            try clear hcz55_0
            try clear hcz55_1
            try clear hcz55_2
            try clear hcz55_3
            try clear hfz48_0
            try clear hfz48_1
            try clear hfz48_2
            try clear hfz48_3
            try clear hfz49_0
            try clear hfz49_1
            try clear hfz52_0
            try clear hfz52_1
            try clear hfz52_2
            try clear hfz52_3
            try clear hfz53_0
            try clear hfz53_1
            try clear hfz55_0
            try clear hfz55_1
            try clear hfz55_2
            try clear hfz55_3
            try clear hx113_0
            try clear hx113_1
            try clear p1
            try clear p11
            try clear p113
            try clear p2
            try clear p6
            try clear q1
            try clear q11
            try clear q113
            obtain ⟨x5_3, rfl, HA, HK3, BK109, HB⟩ := hrel
            cases gk with
            | zero => exact absurd HA.out (by simp [ferryref04_Fit.l1])
            | succ k3 =>
              have H := HA.out
              clear HA
              simp only [ferryref04_Fit.l1] at H
              by_cases c56 : x5_3 < (l0_0.length : Int)
              · rw [if_pos c56] at H
                have c56b0 : decide (x5_3 < (l0_0.length : Int)) = true := decide_eq_true c56
                clear c56
                by_cases c57 : 0 ≤ x5_3
                · rw [if_pos c57] at H
                  have c57b0 : decide (0 ≤ x5_3) = true := decide_eq_true c57
                  clear c57
                  replace H := Option.bind_eq_some_iff.mp H
                  obtain ⟨⟨t117, t118⟩, A580, H⟩ := H
                  have A58 := Aside0.mk A580
                  clear A580
                  by_cases c59 : t118 = true
                  · subst c59
                    replace H := hP_ H
                    by_cases c60 : ((rd_T83 l0_0 x5_3).f1) = 3
                    · rw [if_pos c60] at H
                      have c60b0 : (((rd_T83 l0_0 x5_3).f1) == 3) = true := beq_iff_eq.mpr c60
                      have c60b1 : (((rd_T83 l0_0 x5_3).f1) != 3) = false := bne_eq_false_iff_eq.mpr c60
                      clear c60
                      replace H := Option.bind_eq_some_iff.mp H
                      obtain ⟨t119, A610, H⟩ := H
                      have A61 := Aside0.mk A610
                      clear A610
                      by_cases c62 : t119 = true
                      · subst c62
                        replace H := hP_ H
                        have H' := Aside0.mk H
                        clear H
                        obtain ⟨hcz63_0, hcz63_1, hcz63_2, hcz63_3, hfz63_0, hfz63_1, hfz63_2, hfz63_3⟩ := b4_ BK109.out
                        have p115 : 0 ≤ (x5_3 : Int) := dT_
                        have q115 : x5_3 < (l0_0.length : Int) := dT_
                        obtain ⟨ad115, e115, hx115_0, hx115_1⟩ := at_T83 HR0_0.out x5_3 p115 q115
                        cases e115
                        replace hx115_0 := hX_ hx115_0
                        replace hx115_1 := hX_ hx115_1
                        replace p115 := eq_true p115
                        replace q115 := eq_true q115
                        go_wp2_with (first | ((with_reducible refine gate_dst (N := 6) rfl ?_); (try (refine gate_guard (by rfl) ?_; dsimp only)); refine bE_ 6 #[.int .u64 0, .int .i64 0] 83 ?_; intro gb116 hg w64 hbox hb; have BK116 := Aside0.mk hbox; have GW116 := geT_ w.heap.size hg; have GE116 := geT_ w.heap.size hg; have NB109_116 := nlT_ BK109.out hg; have NB116_109 := ngT_ BK109.out hg; replace BK109 := kB_ BK109 hb; replace HB := hB_ hb; clear hb hbox hg; have hnb65 := NB116_109.out; have hnc65 := NB109_116.out; obtain ⟨hcz66_0, hcz66_1, hfz66_0, hfz66_1⟩ := b2_ BK116.out; obtain ⟨hcz67_0, hcz67_1, hcz67_2, hcz67_3, hfz67_0, hfz67_1, hfz67_2, hfz67_3⟩ := b4_ BK109.out) | ((with_reducible refine gate_callee (f := 46) rfl ?_); refine gL_ (some 105) Try.func46 #[.agg #[.slice (some ad115) l0_0.length c0_0, .slice A0_1 l0_1.length c0_1, .int .u64 a0_2, .slice A0_3 l0_3.length c0_3], .int .u64 (IntKind.u64.wrap (((rd_T83 l0_0 x5_3).f0) * 16384))] ?_; (with_reducible refine (ferryref04_own.calls _ _ l0_0 _ _ l0_1 a0_2 _ _ l0_3 (IntKind.u64.wrap (((rd_T83 l0_0 x5_3).f0) * 16384)) t117 true _ ?side1 ?side2 ?side3 ?side4 ?side5 ?side6 A58.out).mono ?_); (case side1 => exact Kd.C_below HR0_0.out beT_); (case side2 => exact HC0_0.out); (case side3 => exact Kd.C_below HR0_1.out beT_); (case side4 => exact HC0_1.out); (case side5 => exact Kd.C_below HR0_3.out beT_); (case side6 => exact HC0_3.out); rintro e w68 ⟨rfl, hb⟩; refine ⟨_, rfl, ?_⟩; replace BK109 := kB_ BK109 hb; replace BK116 := Aside0.mk (blk_below (g := gb116) (o := .cells #[.int .u64 ((rd_T83 l0_0 x5_3).f0), .int .i64 ((rd_T83 l0_0 x5_3).f1)] 83 (0, 0)) (kP_ BK116.out) hb); replace HB := hB_ hb; (try clear hb); (try clear hb2); (try clear hk); (try clear hi); obtain ⟨hcz69_0, hcz69_1, hfz69_0, hfz69_1⟩ := b2_ BK116.out; obtain ⟨hcz70_0, hcz70_1, hcz70_2, hcz70_3, hfz70_0, hfz70_1, hfz70_2, hfz70_3⟩ := b4_ BK109.out) | (go_at_call 47; (with_reducible refine (ferryref04_used.calls k3 _ _ l0_0 _ _ l0_1 a0_2 _ _ l0_3 ((rd_T83 l0_0 x5_3).f0) true _ ?side1 ?side2 ?side3 ?side4 ?side5 ?side6 A61.out).mono ?_); (case side1 => exact cT_ (Kd.C_below HR0_0.out HB.out)); (case side2 => exact HC0_0.out); (case side3 => exact cT_ (Kd.C_below HR0_1.out HB.out)); (case side4 => exact HC0_1.out); (case side5 => exact cT_ (Kd.C_below HR0_3.out HB.out)); (case side6 => exact HC0_3.out); rintro e w71 ⟨rfl, hb⟩; replace BK109 := kB_ BK109 hb; replace BK116 := kB_ BK116 hb; replace HB := hB_ hb; (try clear hb); (try clear hb2); (try clear hk); (try clear hi)))
                        go_roundg k3
                        case measure => have := HJ1.out; have := HK2.out; have := HK3.out; omega
                        case rel => exact ⟨(wrap64 (x5_3 + 1)), r1_, H', ⟨by have := HJ1.out; have := HK2.out; have := HK3.out; omega⟩, ⟨bT_ BK109.out⟩, ⟨beT_⟩⟩
                      replace c62 := Bool.eq_false_iff.mpr c62
                      subst c62
                      replace H := hN_ H
                      obtain rfl := Option.some.inj H
                      obtain ⟨hcz72_0, hcz72_1, hcz72_2, hcz72_3, hfz72_0, hfz72_1, hfz72_2, hfz72_3⟩ := b4_ BK109.out
                      have p115 : 0 ≤ (x5_3 : Int) := dT_
                      have q115 : x5_3 < (l0_0.length : Int) := dT_
                      obtain ⟨ad115, e115, hx115_0, hx115_1⟩ := at_T83 HR0_0.out x5_3 p115 q115
                      cases e115
                      replace hx115_0 := hX_ hx115_0
                      replace hx115_1 := hX_ hx115_1
                      replace p115 := eq_true p115
                      replace q115 := eq_true q115
                      go_wp2_with (first | ((with_reducible refine gate_dst (N := 6) rfl ?_); (try (refine gate_guard (by rfl) ?_; dsimp only)); refine bE_ 6 #[.int .u64 0, .int .i64 0] 83 ?_; intro gb116 hg w73 hbox hb; have BK116 := Aside0.mk hbox; have GW116 := geT_ w.heap.size hg; have GE116 := geT_ w.heap.size hg; have NB109_116 := nlT_ BK109.out hg; have NB116_109 := ngT_ BK109.out hg; replace BK109 := kB_ BK109 hb; replace HB := hB_ hb; clear hb hbox hg; have hnb74 := NB116_109.out; have hnc74 := NB109_116.out; obtain ⟨hcz75_0, hcz75_1, hfz75_0, hfz75_1⟩ := b2_ BK116.out; obtain ⟨hcz76_0, hcz76_1, hcz76_2, hcz76_3, hfz76_0, hfz76_1, hfz76_2, hfz76_3⟩ := b4_ BK109.out) | ((with_reducible refine gate_callee (f := 46) rfl ?_); refine gL_ (some 105) Try.func46 #[.agg #[.slice (some ad115) l0_0.length c0_0, .slice A0_1 l0_1.length c0_1, .int .u64 a0_2, .slice A0_3 l0_3.length c0_3], .int .u64 (IntKind.u64.wrap (((rd_T83 l0_0 x5_3).f0) * 16384))] ?_; (with_reducible refine (ferryref04_own.calls _ _ l0_0 _ _ l0_1 a0_2 _ _ l0_3 (IntKind.u64.wrap (((rd_T83 l0_0 x5_3).f0) * 16384)) t117 true _ ?side1 ?side2 ?side3 ?side4 ?side5 ?side6 A58.out).mono ?_); (case side1 => exact Kd.C_below HR0_0.out beT_); (case side2 => exact HC0_0.out); (case side3 => exact Kd.C_below HR0_1.out beT_); (case side4 => exact HC0_1.out); (case side5 => exact Kd.C_below HR0_3.out beT_); (case side6 => exact HC0_3.out); rintro e w77 ⟨rfl, hb⟩; refine ⟨_, rfl, ?_⟩; replace BK109 := kB_ BK109 hb; replace BK116 := Aside0.mk (blk_below (g := gb116) (o := .cells #[.int .u64 ((rd_T83 l0_0 x5_3).f0), .int .i64 ((rd_T83 l0_0 x5_3).f1)] 83 (0, 0)) (kP_ BK116.out) hb); replace HB := hB_ hb; (try clear hb); (try clear hb2); (try clear hk); (try clear hi); obtain ⟨hcz78_0, hcz78_1, hfz78_0, hfz78_1⟩ := b2_ BK116.out; obtain ⟨hcz79_0, hcz79_1, hcz79_2, hcz79_3, hfz79_0, hfz79_1, hfz79_2, hfz79_3⟩ := b4_ BK109.out) | (go_at_call 47; (with_reducible refine (ferryref04_used.calls k3 _ _ l0_0 _ _ l0_1 a0_2 _ _ l0_3 ((rd_T83 l0_0 x5_3).f0) false _ ?side1 ?side2 ?side3 ?side4 ?side5 ?side6 A61.out).mono ?_); (case side1 => exact cT_ (Kd.C_below HR0_0.out HB.out)); (case side2 => exact HC0_0.out); (case side3 => exact cT_ (Kd.C_below HR0_1.out HB.out)); (case side4 => exact HC0_1.out); (case side5 => exact cT_ (Kd.C_below HR0_3.out HB.out)); (case side6 => exact HC0_3.out); rintro e w80 ⟨rfl, hb⟩; replace BK109 := kB_ BK109 hb; replace BK116 := kB_ BK116 hb; replace HB := hB_ hb; (try clear hb); (try clear hb2); (try clear hk); (try clear hi)))
                      go_ret
                      exact ⟨r3_, beT_⟩
                    rw [if_neg c60] at H
                    have c60b0 : (((rd_T83 l0_0 x5_3).f1) == 3) = false := beq_eq_false_iff_ne.mpr c60
                    have c60b1 : (((rd_T83 l0_0 x5_3).f1) != 3) = true := bne_iff_ne.mpr c60
                    obtain rfl := Option.some.inj H
                    obtain ⟨hcz81_0, hcz81_1, hcz81_2, hcz81_3, hfz81_0, hfz81_1, hfz81_2, hfz81_3⟩ := b4_ BK109.out
                    have p115 : 0 ≤ (x5_3 : Int) := dT_
                    have q115 : x5_3 < (l0_0.length : Int) := dT_
                    obtain ⟨ad115, e115, hx115_0, hx115_1⟩ := at_T83 HR0_0.out x5_3 p115 q115
                    cases e115
                    replace hx115_0 := hX_ hx115_0
                    replace hx115_1 := hX_ hx115_1
                    replace p115 := eq_true p115
                    replace q115 := eq_true q115
                    go_wp2_with (first | ((with_reducible refine gate_dst (N := 6) rfl ?_); (try (refine gate_guard (by rfl) ?_; dsimp only)); refine bE_ 6 #[.int .u64 0, .int .i64 0] 83 ?_; intro gb116 hg w82 hbox hb; have BK116 := Aside0.mk hbox; have GW116 := geT_ w.heap.size hg; have GE116 := geT_ w.heap.size hg; have NB109_116 := nlT_ BK109.out hg; have NB116_109 := ngT_ BK109.out hg; replace BK109 := kB_ BK109 hb; replace HB := hB_ hb; clear hb hbox hg; have hnb83 := NB116_109.out; have hnc83 := NB109_116.out; obtain ⟨hcz84_0, hcz84_1, hfz84_0, hfz84_1⟩ := b2_ BK116.out; obtain ⟨hcz85_0, hcz85_1, hcz85_2, hcz85_3, hfz85_0, hfz85_1, hfz85_2, hfz85_3⟩ := b4_ BK109.out) | ((with_reducible refine gate_callee (f := 46) rfl ?_); refine gL_ (some 105) Try.func46 #[.agg #[.slice (some ad115) l0_0.length c0_0, .slice A0_1 l0_1.length c0_1, .int .u64 a0_2, .slice A0_3 l0_3.length c0_3], .int .u64 (IntKind.u64.wrap (((rd_T83 l0_0 x5_3).f0) * 16384))] ?_; (with_reducible refine (ferryref04_own.calls _ _ l0_0 _ _ l0_1 a0_2 _ _ l0_3 (IntKind.u64.wrap (((rd_T83 l0_0 x5_3).f0) * 16384)) t117 true _ ?side1 ?side2 ?side3 ?side4 ?side5 ?side6 A58.out).mono ?_); (case side1 => exact Kd.C_below HR0_0.out beT_); (case side2 => exact HC0_0.out); (case side3 => exact Kd.C_below HR0_1.out beT_); (case side4 => exact HC0_1.out); (case side5 => exact Kd.C_below HR0_3.out beT_); (case side6 => exact HC0_3.out); rintro e w86 ⟨rfl, hb⟩; refine ⟨_, rfl, ?_⟩; replace BK109 := kB_ BK109 hb; replace BK116 := Aside0.mk (blk_below (g := gb116) (o := .cells #[.int .u64 ((rd_T83 l0_0 x5_3).f0), .int .i64 ((rd_T83 l0_0 x5_3).f1)] 83 (0, 0)) (kP_ BK116.out) hb); replace HB := hB_ hb; (try clear hb); (try clear hb2); (try clear hk); (try clear hi); obtain ⟨hcz87_0, hcz87_1, hfz87_0, hfz87_1⟩ := b2_ BK116.out))
                    go_ret
                    exact ⟨r3_, beT_⟩
                  replace c59 := Bool.eq_false_iff.mpr c59
                  subst c59
                  replace H := hN_ H
                  have H' := Aside0.mk H
                  clear H
                  obtain ⟨hcz88_0, hcz88_1, hcz88_2, hcz88_3, hfz88_0, hfz88_1, hfz88_2, hfz88_3⟩ := b4_ BK109.out
                  have p115 : 0 ≤ (x5_3 : Int) := dT_
                  have q115 : x5_3 < (l0_0.length : Int) := dT_
                  obtain ⟨ad115, e115, hx115_0, hx115_1⟩ := at_T83 HR0_0.out x5_3 p115 q115
                  cases e115
                  replace hx115_0 := hX_ hx115_0
                  replace hx115_1 := hX_ hx115_1
                  replace p115 := eq_true p115
                  replace q115 := eq_true q115
                  go_wp2_with (first | ((with_reducible refine gate_dst (N := 6) rfl ?_); (try (refine gate_guard (by rfl) ?_; dsimp only)); refine bE_ 6 #[.int .u64 0, .int .i64 0] 83 ?_; intro gb116 hg w89 hbox hb; have BK116 := Aside0.mk hbox; have GW116 := geT_ w.heap.size hg; have GE116 := geT_ w.heap.size hg; have NB109_116 := nlT_ BK109.out hg; have NB116_109 := ngT_ BK109.out hg; replace BK109 := kB_ BK109 hb; replace HB := hB_ hb; clear hb hbox hg; have hnb90 := NB116_109.out; have hnc90 := NB109_116.out; obtain ⟨hcz91_0, hcz91_1, hfz91_0, hfz91_1⟩ := b2_ BK116.out; obtain ⟨hcz92_0, hcz92_1, hcz92_2, hcz92_3, hfz92_0, hfz92_1, hfz92_2, hfz92_3⟩ := b4_ BK109.out) | ((with_reducible refine gate_callee (f := 46) rfl ?_); refine gL_ (some 105) Try.func46 #[.agg #[.slice (some ad115) l0_0.length c0_0, .slice A0_1 l0_1.length c0_1, .int .u64 a0_2, .slice A0_3 l0_3.length c0_3], .int .u64 (IntKind.u64.wrap (((rd_T83 l0_0 x5_3).f0) * 16384))] ?_; (with_reducible refine (ferryref04_own.calls _ _ l0_0 _ _ l0_1 a0_2 _ _ l0_3 (IntKind.u64.wrap (((rd_T83 l0_0 x5_3).f0) * 16384)) t117 false _ ?side1 ?side2 ?side3 ?side4 ?side5 ?side6 A58.out).mono ?_); (case side1 => exact Kd.C_below HR0_0.out beT_); (case side2 => exact HC0_0.out); (case side3 => exact Kd.C_below HR0_1.out beT_); (case side4 => exact HC0_1.out); (case side5 => exact Kd.C_below HR0_3.out beT_); (case side6 => exact HC0_3.out); rintro e w93 ⟨rfl, hb⟩; refine ⟨_, rfl, ?_⟩; replace BK109 := kB_ BK109 hb; replace BK116 := Aside0.mk (blk_below (g := gb116) (o := .cells #[.int .u64 ((rd_T83 l0_0 x5_3).f0), .int .i64 ((rd_T83 l0_0 x5_3).f1)] 83 (0, 0)) (kP_ BK116.out) hb); replace HB := hB_ hb; (try clear hb); (try clear hb2); (try clear hk); (try clear hi)))
                  go_roundg k3
                  case measure => have := HJ1.out; have := HK2.out; have := HK3.out; omega
                  case rel => exact ⟨(wrap64 (x5_3 + 1)), r1_, H', ⟨by have := HJ1.out; have := HK2.out; have := HK3.out; omega⟩, ⟨bT_ BK109.out⟩, ⟨beT_⟩⟩
                rw [if_neg c57] at H
                exact absurd H (by simp)
              rw [if_neg c56] at H
              have c56b0 : decide (x5_3 < (l0_0.length : Int)) = false := decide_eq_false c56
              clear c56
              have H' := Aside0.mk H
              clear H
              obtain ⟨hcz94_0, hcz94_1, hcz94_2, hcz94_3, hfz94_0, hfz94_1, hfz94_2, hfz94_3⟩ := b4_ BK109.out
              go_wp2
              go_loopg [9] k3 (fun kq v9 w' => ∃ (x9_4 : Int), v9 = .int .i64 x9_4 ∧ Aside0 (ferryref04_Fit.l2 kq x9_4 l0_0 l0_1 a0_2 l0_3 = some r) ∧ Aside0 (kq ≤ k3) ∧ Aside0 (w'.heap[gb109]? = some (.cells #[(.slice A0_0 l0_0.length c0_0), (.slice A0_1 l0_1.length c0_1), .int .u64 a0_2, (.slice A0_3 l0_3.length c0_3)] 29 (0, 0))) ∧ Aside0 (Below w.heap.size w w'))
              case atStart => exact ⟨(0), r1_, H', ⟨Nat.le_refl _⟩, ⟨bT_ BK109.out⟩, ⟨beT_⟩⟩
              case round =>
                clear H'
                try clear p1
                try clear q1
                try clear hx1
                try clear c2
                try clear p2
                try clear c3
                try clear c4
                try clear c5
                try clear c6
                try clear p6
                try clear c7
                try clear c8
                try clear c9
                try clear p11
                try clear q11
                try clear hx11
                try clear c20
                try clear c20b0
                try clear c21
                try clear c33
                try clear c33b0
                try clear c36
                try clear c36b0
                try clear c38
                try clear c38b0
                try clear c39
                try clear c39b0
                try clear c44
                try clear c45
                try clear c46
                try clear c46b0
                try clear c47
                try clear c51
                try clear c56
                try clear c56b0
                try clear c57
                try clear c57b0
                try clear c59
                try clear c60
                try clear c60b0
                try clear c60b1
                try clear c62
                try clear p64
                try clear c65
                try clear c74
                try clear c83
                try clear c90
                try clear hcz48_0
                try clear hcz48_1
                try clear hcz48_2
                try clear hcz48_3
                try clear hcz49_0
                try clear hcz49_1
                try clear hcz52_0
                try clear hcz52_1
                try clear hcz52_2
                try clear hcz52_3
                try clear hcz53_0
                try clear hcz53_1
                try clear hcz55_0
                try clear hcz55_1
                try clear hcz55_2
                try clear hcz55_3
                try clear hcz63_0
                try clear hcz63_1
                try clear hcz63_2
                try clear hcz63_3
                try clear hcz66_0
                try clear hcz66_1
                try clear hcz67_0
                try clear hcz67_1
                try clear hcz67_2
                try clear hcz67_3
                try clear hcz69_0
                try clear hcz69_1
                try clear hcz70_0
                try clear hcz70_1
                try clear hcz70_2
                try clear hcz70_3
                try clear hcz72_0
                try clear hcz72_1
                try clear hcz72_2
                try clear hcz72_3
                try clear hcz75_0
                try clear hcz75_1
                try clear hcz76_0
                try clear hcz76_1
                try clear hcz76_2
                try clear hcz76_3
                try clear hcz78_0
                try clear hcz78_1
                try clear hcz79_0
                try clear hcz79_1
                try clear hcz79_2
                try clear hcz79_3
                try clear hcz81_0
                try clear hcz81_1
                try clear hcz81_2
                try clear hcz81_3
                try clear hcz84_0
                try clear hcz84_1
                try clear hcz85_0
                try clear hcz85_1
                try clear hcz85_2
                try clear hcz85_3
                try clear hcz87_0
                try clear hcz87_1
                try clear hcz88_0
                try clear hcz88_1
                try clear hcz88_2
                try clear hcz88_3
                try clear hcz91_0
                try clear hcz91_1
                try clear hcz92_0
                try clear hcz92_1
                try clear hcz92_2
                try clear hcz92_3
                try clear hcz94_0
                try clear hcz94_1
                try clear hcz94_2
                try clear hcz94_3
                try clear hfz48_0
                try clear hfz48_1
                try clear hfz48_2
                try clear hfz48_3
                try clear hfz49_0
                try clear hfz49_1
                try clear hfz52_0
                try clear hfz52_1
                try clear hfz52_2
                try clear hfz52_3
                try clear hfz53_0
                try clear hfz53_1
                try clear hfz55_0
                try clear hfz55_1
                try clear hfz55_2
                try clear hfz55_3
                try clear hfz63_0
                try clear hfz63_1
                try clear hfz63_2
                try clear hfz63_3
                try clear hfz66_0
                try clear hfz66_1
                try clear hfz67_0
                try clear hfz67_1
                try clear hfz67_2
                try clear hfz67_3
                try clear hfz69_0
                try clear hfz69_1
                try clear hfz70_0
                try clear hfz70_1
                try clear hfz70_2
                try clear hfz70_3
                try clear hfz72_0
                try clear hfz72_1
                try clear hfz72_2
                try clear hfz72_3
                try clear hfz75_0
                try clear hfz75_1
                try clear hfz76_0
                try clear hfz76_1
                try clear hfz76_2
                try clear hfz76_3
                try clear hfz78_0
                try clear hfz78_1
                try clear hfz79_0
                try clear hfz79_1
                try clear hfz79_2
                try clear hfz79_3
                try clear hfz81_0
                try clear hfz81_1
                try clear hfz81_2
                try clear hfz81_3
                try clear hfz84_0
                try clear hfz84_1
                try clear hfz85_0
                try clear hfz85_1
                try clear hfz85_2
                try clear hfz85_3
                try clear hfz87_0
                try clear hfz87_1
                try clear hfz88_0
                try clear hfz88_1
                try clear hfz88_2
                try clear hfz88_3
                try clear hfz91_0
                try clear hfz91_1
                try clear hfz92_0
                try clear hfz92_1
                try clear hfz92_2
                try clear hfz92_3
                try clear hfz94_0
                try clear hfz94_1
                try clear hfz94_2
                try clear hfz94_3
                try clear hx113_0
                try clear hx113_1
                try clear hx115_0
                try clear hx115_1
                try clear p1
                try clear p11
                try clear p113
                try clear p115
                try clear p2
                try clear p6
                try clear q1
                try clear q11
                try clear q113
                try clear q115
                obtain ⟨x9_4, rfl, HA, HK4, BK109, HB⟩ := hrel
                cases gk with
                | zero => exact absurd HA.out (by simp [ferryref04_Fit.l2])
                | succ k4 =>
                  have H := HA.out
                  clear HA
                  simp only [ferryref04_Fit.l2] at H
                  by_cases c95 : x9_4 < (l0_1.length : Int)
                  · rw [if_pos c95] at H
                    have c95b0 : decide (x9_4 < (l0_1.length : Int)) = true := decide_eq_true c95
                    clear c95
                    by_cases c96 : 0 ≤ x9_4
                    · rw [if_pos c96] at H
                      have c96b0 : decide (0 ≤ x9_4) = true := decide_eq_true c96
                      clear c96
                      replace H := Option.bind_eq_some_iff.mp H
                      obtain ⟨⟨t121, t122⟩, A970, H⟩ := H
                      have A97 := Aside0.mk A970
                      clear A970
                      by_cases c98 : t122 = true
                      · subst c98
                        replace H := hP_ H
                        replace H := Option.bind_eq_some_iff.mp H
                        obtain ⟨t123, A990, H⟩ := H
                        have A99 := Aside0.mk A990
                        clear A990
                        by_cases c100 : t123 < 0
                        · rw [if_pos c100] at H
                          have c100b0 : decide (t123 < 0) = true := decide_eq_true c100
                          clear c100
                          obtain rfl := Option.some.inj H
                          obtain ⟨hcz101_0, hcz101_1, hcz101_2, hcz101_3, hfz101_0, hfz101_1, hfz101_2, hfz101_3⟩ := b4_ BK109.out
                          try go_wp2
                          replace BK109 := Aside0.mk (blk_drew BK109.out)
                          replace HB := Aside0.mk (below_drew1 HB.out)
                          have p120 : 0 ≤ (x9_4 : Int) := dT_
                          have q120 : x9_4 < (l0_1.length : Int) := dT_
                          obtain ⟨ad120, e120, hx120_0, hx120_1⟩ := at_T88 HR0_1.out x9_4 p120 q120
                          have hw120_1 := hx120_1
                          have hw120_0 := hx120_0
                          cases e120
                          replace hx120_0 := hX_ hx120_0
                          replace hx120_1 := hX_ hx120_1
                          replace p120 := eq_true p120
                          replace q120 := eq_true q120
                          refine start_ (n := 14) (S := fun w' => w'.cell? ⟨gb109, 0, none⟩ = some (.slice A0_0 l0_0.length c0_0) ∧ w'.cell? ⟨gb109, 1, none⟩ = some (.slice (some ad120) l0_1.length c0_1) ∧ w'.cell? ⟨gb109, 2, none⟩ = some (.int .u64 a0_2) ∧ w'.cell? ⟨gb109, 3, none⟩ = some (.slice A0_3 l0_3.length c0_3) ∧ w'.cell? (ad120.add ((x9_4).toNat * 2)) = some (.int .u64 ((rd_T88 l0_1 x9_4).f0)) ∧ w'.cell? ⟨(ad120.add ((x9_4).toNat * 2)).block, (ad120.add ((x9_4).toNat * 2)).off + 1, none⟩ = some (.int .u64 ((rd_T88 l0_1 x9_4).f1))) (ds := []) (mb_ 14 0) (by kernel_rfl) rfl rfl ⟨(blk_cell BK109.out 0).trans rfl, (blk_cell BK109.out 1).trans rfl, (blk_cell BK109.out 2).trans rfl, (blk_cell BK109.out 3).trans rfl, ((HB.out.cell (World.block_lt_of_cell? w _ hw120_0)).trans hw120_0), ((HB.out.cell (World.block_lt_of_cell? w _ hw120_1)).trans hw120_1)⟩ (fun hHeld => ?_); refine with_tabW ferryref04_Fit.tab21 ferryref04_Fit.bits21 (fun HT_ HW_ => ?_)
                          generalize wr.drew = w102 at BK109 HB hx120_0 hx120_1 hHeld ⊢
                          refine pS_ 1 131 (mb_ 14 2) ?_
                          refine pS_ 2 132 (mb_ 14 6) ?_
                          refine pS_ 4 134 (mb_ 14 22) ?_
                          refine t6S_ 0 130 (mb_ 14 23) ?_
                          refine t6S_ 3 133 (mb_ 14 31) ?_
                          refine pS_ 5 135 (mb_ 14 63) ?_
                          refine pS_ 6 136 (mb_ 14 127) ?_
                          refine t6S_ 7 137 (mb_ 14 255) ?_
                          refine one_ (i := 8) (N := some 138) (mb_ 14 511) rfl rfl (one_of HT_.out (by kernel_rfl)) (by decide) (fun K hK => ?_)
                          refine goes_ Try.func46 (by kernel_rfl) rfl #[.agg #[.slice A0_0 l0_0.length c0_0, .slice (some ad120) l0_1.length c0_1, .int .u64 a0_2, .slice A0_3 l0_3.length c0_3], .int .u64 ((rd_T88 l0_1 x9_4).f0)] (by rfl) rfl rfl aT_ ?_
                          with_reducible refine (ferryref04_own.calls _ _ l0_0 _ _ l0_1 a0_2 _ _ l0_3 ((rd_T88 l0_1 x9_4).f0) t121 true _ ?side1 ?side2 ?side3 ?side4 ?side5 ?side6 A97.out).mono ?_
                          (case side1 => exact cT_ (Kd.C_below HR0_0.out HB.out))
                          (case side2 => exact HC0_0.out)
                          (case side3 => exact cT_ (Kd.C_below HR0_1.out HB.out))
                          (case side4 => exact HC0_1.out)
                          (case side5 => exact cT_ (Kd.C_below HR0_3.out HB.out))
                          (case side6 => exact HC0_3.out)
                          rintro e w103 ⟨rfl, hb⟩
                          refine ⟨_, rfl, ?_⟩
                          replace BK109 := kB_ BK109 hb
                          replace HB := hB_ hb
                          (try clear hb)
                          (try clear hb2)
                          (try clear hk)
                          (try clear hi)
                          refine hK.out _ _ ⟨(blk_cell BK109.out 0).trans rfl, (blk_cell BK109.out 1).trans rfl, (blk_cell BK109.out 2).trans rfl, (blk_cell BK109.out 3).trans rfl, ((HB.out.cell (World.block_lt_of_cell? w _ hw120_0)).trans hw120_0), ((HB.out.cell (World.block_lt_of_cell? w _ hw120_1)).trans hw120_1)⟩ (fun hHeld => ?_)
                          clear hK K
                          refine nS_ ?_
                          refine pS_ 9 129 (mb_ 14 1023) ?_
                          refine pS_ 10 139 (mb_ 14 2047) ?_
                          refine pS_ 11 140 (mb_ 14 4095) ?_
                          refine pS_ 12 10 (mb_ 14 8191) ?_
                          refine pS_ 13 11 (mb_ 14 16383) ?_
                          refine done_ (done_of HT_.out (by kernel_rfl)) ?_
                          obtain ⟨hcz104_0, hcz104_1, hcz104_2, hcz104_3, hfz104_0, hfz104_1, hfz104_2, hfz104_3⟩ := b4_ BK109.out
                          try go_wp2_with (first | (go_at_call 30; (with_reducible refine (ferryref04_Prot.calls k4 _ _ l0_0 _ _ l0_1 a0_2 _ _ l0_3 t121 t123 _ ?side1 ?side2 ?side3 ?side4 ?side5 ?side6 A99.out).mono ?_); (case side1 => exact cT_ (Kd.C_below HR0_0.out HB.out)); (case side2 => exact HC0_0.out); (case side3 => exact cT_ (Kd.C_below HR0_1.out HB.out)); (case side4 => exact HC0_1.out); (case side5 => exact cT_ (Kd.C_below HR0_3.out HB.out)); (case side6 => exact HC0_3.out); rintro e w105 ⟨rfl, hb⟩; replace BK109 := kB_ BK109 hb; replace HB := hB_ hb; (try clear hb); (try clear hb2); (try clear hk); (try clear hi)))
                          go_ret
                          exact ⟨r3_, beT_⟩
                        rw [if_neg c100] at H
                        have c100b0 : decide (t123 < 0) = false := decide_eq_false c100
                        clear c100
                        have H' := Aside0.mk H
                        clear H
                        obtain ⟨hcz106_0, hcz106_1, hcz106_2, hcz106_3, hfz106_0, hfz106_1, hfz106_2, hfz106_3⟩ := b4_ BK109.out
                        try go_wp2
                        replace BK109 := Aside0.mk (blk_drew BK109.out)
                        replace HB := Aside0.mk (below_drew1 HB.out)
                        have p120 : 0 ≤ (x9_4 : Int) := dT_
                        have q120 : x9_4 < (l0_1.length : Int) := dT_
                        obtain ⟨ad120, e120, hx120_0, hx120_1⟩ := at_T88 HR0_1.out x9_4 p120 q120
                        have hw120_1 := hx120_1
                        have hw120_0 := hx120_0
                        cases e120
                        replace hx120_0 := hX_ hx120_0
                        replace hx120_1 := hX_ hx120_1
                        replace p120 := eq_true p120
                        replace q120 := eq_true q120
                        refine start_ (n := 14) (S := fun w' => w'.cell? ⟨gb109, 0, none⟩ = some (.slice A0_0 l0_0.length c0_0) ∧ w'.cell? ⟨gb109, 1, none⟩ = some (.slice (some ad120) l0_1.length c0_1) ∧ w'.cell? ⟨gb109, 2, none⟩ = some (.int .u64 a0_2) ∧ w'.cell? ⟨gb109, 3, none⟩ = some (.slice A0_3 l0_3.length c0_3) ∧ w'.cell? (ad120.add ((x9_4).toNat * 2)) = some (.int .u64 ((rd_T88 l0_1 x9_4).f0)) ∧ w'.cell? ⟨(ad120.add ((x9_4).toNat * 2)).block, (ad120.add ((x9_4).toNat * 2)).off + 1, none⟩ = some (.int .u64 ((rd_T88 l0_1 x9_4).f1))) (ds := []) (mb_ 14 0) (by kernel_rfl) rfl rfl ⟨(blk_cell BK109.out 0).trans rfl, (blk_cell BK109.out 1).trans rfl, (blk_cell BK109.out 2).trans rfl, (blk_cell BK109.out 3).trans rfl, ((HB.out.cell (World.block_lt_of_cell? w _ hw120_0)).trans hw120_0), ((HB.out.cell (World.block_lt_of_cell? w _ hw120_1)).trans hw120_1)⟩ (fun hHeld => ?_); refine with_tabW ferryref04_Fit.tab21 ferryref04_Fit.bits21 (fun HT_ HW_ => ?_)
                        generalize wr.drew = w107 at BK109 HB hx120_0 hx120_1 hHeld ⊢
                        refine pS_ 1 131 (mb_ 14 2) ?_
                        refine pS_ 2 132 (mb_ 14 6) ?_
                        refine pS_ 4 134 (mb_ 14 22) ?_
                        refine t6S_ 0 130 (mb_ 14 23) ?_
                        refine t6S_ 3 133 (mb_ 14 31) ?_
                        refine pS_ 5 135 (mb_ 14 63) ?_
                        refine pS_ 6 136 (mb_ 14 127) ?_
                        refine t6S_ 7 137 (mb_ 14 255) ?_
                        refine one_ (i := 8) (N := some 138) (mb_ 14 511) rfl rfl (one_of HT_.out (by kernel_rfl)) (by decide) (fun K hK => ?_)
                        refine goes_ Try.func46 (by kernel_rfl) rfl #[.agg #[.slice A0_0 l0_0.length c0_0, .slice (some ad120) l0_1.length c0_1, .int .u64 a0_2, .slice A0_3 l0_3.length c0_3], .int .u64 ((rd_T88 l0_1 x9_4).f0)] (by rfl) rfl rfl aT_ ?_
                        with_reducible refine (ferryref04_own.calls _ _ l0_0 _ _ l0_1 a0_2 _ _ l0_3 ((rd_T88 l0_1 x9_4).f0) t121 true _ ?side1 ?side2 ?side3 ?side4 ?side5 ?side6 A97.out).mono ?_
                        (case side1 => exact cT_ (Kd.C_below HR0_0.out HB.out))
                        (case side2 => exact HC0_0.out)
                        (case side3 => exact cT_ (Kd.C_below HR0_1.out HB.out))
                        (case side4 => exact HC0_1.out)
                        (case side5 => exact cT_ (Kd.C_below HR0_3.out HB.out))
                        (case side6 => exact HC0_3.out)
                        rintro e w108 ⟨rfl, hb⟩
                        refine ⟨_, rfl, ?_⟩
                        replace BK109 := kB_ BK109 hb
                        replace HB := hB_ hb
                        (try clear hb)
                        (try clear hb2)
                        (try clear hk)
                        (try clear hi)
                        refine hK.out _ _ ⟨(blk_cell BK109.out 0).trans rfl, (blk_cell BK109.out 1).trans rfl, (blk_cell BK109.out 2).trans rfl, (blk_cell BK109.out 3).trans rfl, ((HB.out.cell (World.block_lt_of_cell? w _ hw120_0)).trans hw120_0), ((HB.out.cell (World.block_lt_of_cell? w _ hw120_1)).trans hw120_1)⟩ (fun hHeld => ?_)
                        clear hK K
                        refine nS_ ?_
                        refine pS_ 9 129 (mb_ 14 1023) ?_
                        refine pS_ 10 139 (mb_ 14 2047) ?_
                        refine pS_ 11 140 (mb_ 14 4095) ?_
                        refine pS_ 12 10 (mb_ 14 8191) ?_
                        refine pS_ 13 11 (mb_ 14 16383) ?_
                        refine done_ (done_of HT_.out (by kernel_rfl)) ?_
                        obtain ⟨hcz109_0, hcz109_1, hcz109_2, hcz109_3, hfz109_0, hfz109_1, hfz109_2, hfz109_3⟩ := b4_ BK109.out
                        try go_wp2_with (first | (go_at_call 30; (with_reducible refine (ferryref04_Prot.calls k4 _ _ l0_0 _ _ l0_1 a0_2 _ _ l0_3 t121 t123 _ ?side1 ?side2 ?side3 ?side4 ?side5 ?side6 A99.out).mono ?_); (case side1 => exact cT_ (Kd.C_below HR0_0.out HB.out)); (case side2 => exact HC0_0.out); (case side3 => exact cT_ (Kd.C_below HR0_1.out HB.out)); (case side4 => exact HC0_1.out); (case side5 => exact cT_ (Kd.C_below HR0_3.out HB.out)); (case side6 => exact HC0_3.out); rintro e w110 ⟨rfl, hb⟩; replace BK109 := kB_ BK109 hb; replace HB := hB_ hb; (try clear hb); (try clear hb2); (try clear hk); (try clear hi)))
                        go_roundg k4
                        case measure => have := HJ1.out; have := HK2.out; have := HK3.out; have := HK4.out; omega
                        case rel => exact ⟨(wrap64 (x9_4 + 1)), r1_, H', ⟨by have := HJ1.out; have := HK2.out; have := HK3.out; have := HK4.out; omega⟩, ⟨bT_ BK109.out⟩, ⟨beT_⟩⟩
                      replace c98 := Bool.eq_false_iff.mpr c98
                      subst c98
                      replace H := hN_ H
                      have H' := Aside0.mk H
                      clear H
                      obtain ⟨hcz111_0, hcz111_1, hcz111_2, hcz111_3, hfz111_0, hfz111_1, hfz111_2, hfz111_3⟩ := b4_ BK109.out
                      try go_wp2
                      replace BK109 := Aside0.mk (blk_drew BK109.out)
                      replace HB := Aside0.mk (below_drew1 HB.out)
                      have p120 : 0 ≤ (x9_4 : Int) := dT_
                      have q120 : x9_4 < (l0_1.length : Int) := dT_
                      obtain ⟨ad120, e120, hx120_0, hx120_1⟩ := at_T88 HR0_1.out x9_4 p120 q120
                      have hw120_1 := hx120_1
                      have hw120_0 := hx120_0
                      cases e120
                      replace hx120_0 := hX_ hx120_0
                      replace hx120_1 := hX_ hx120_1
                      replace p120 := eq_true p120
                      replace q120 := eq_true q120
                      refine start_ (n := 14) (S := fun w' => w'.cell? ⟨gb109, 0, none⟩ = some (.slice A0_0 l0_0.length c0_0) ∧ w'.cell? ⟨gb109, 1, none⟩ = some (.slice (some ad120) l0_1.length c0_1) ∧ w'.cell? ⟨gb109, 2, none⟩ = some (.int .u64 a0_2) ∧ w'.cell? ⟨gb109, 3, none⟩ = some (.slice A0_3 l0_3.length c0_3) ∧ w'.cell? (ad120.add ((x9_4).toNat * 2)) = some (.int .u64 ((rd_T88 l0_1 x9_4).f0)) ∧ w'.cell? ⟨(ad120.add ((x9_4).toNat * 2)).block, (ad120.add ((x9_4).toNat * 2)).off + 1, none⟩ = some (.int .u64 ((rd_T88 l0_1 x9_4).f1))) (ds := []) (mb_ 14 0) (by kernel_rfl) rfl rfl ⟨(blk_cell BK109.out 0).trans rfl, (blk_cell BK109.out 1).trans rfl, (blk_cell BK109.out 2).trans rfl, (blk_cell BK109.out 3).trans rfl, ((HB.out.cell (World.block_lt_of_cell? w _ hw120_0)).trans hw120_0), ((HB.out.cell (World.block_lt_of_cell? w _ hw120_1)).trans hw120_1)⟩ (fun hHeld => ?_); refine with_tabW ferryref04_Fit.tab21 ferryref04_Fit.bits21 (fun HT_ HW_ => ?_)
                      generalize wr.drew = w112 at BK109 HB hx120_0 hx120_1 hHeld ⊢
                      refine pS_ 1 131 (mb_ 14 2) ?_
                      refine pS_ 2 132 (mb_ 14 6) ?_
                      refine pS_ 4 134 (mb_ 14 22) ?_
                      refine t6S_ 0 130 (mb_ 14 23) ?_
                      refine t6S_ 3 133 (mb_ 14 31) ?_
                      refine pS_ 5 135 (mb_ 14 63) ?_
                      refine pS_ 6 136 (mb_ 14 127) ?_
                      refine t6S_ 7 137 (mb_ 14 255) ?_
                      refine one_ (i := 8) (N := some 138) (mb_ 14 511) rfl rfl (one_of HT_.out (by kernel_rfl)) (by decide) (fun K hK => ?_)
                      refine goes_ Try.func46 (by kernel_rfl) rfl #[.agg #[.slice A0_0 l0_0.length c0_0, .slice (some ad120) l0_1.length c0_1, .int .u64 a0_2, .slice A0_3 l0_3.length c0_3], .int .u64 ((rd_T88 l0_1 x9_4).f0)] (by rfl) rfl rfl aT_ ?_
                      with_reducible refine (ferryref04_own.calls _ _ l0_0 _ _ l0_1 a0_2 _ _ l0_3 ((rd_T88 l0_1 x9_4).f0) t121 false _ ?side1 ?side2 ?side3 ?side4 ?side5 ?side6 A97.out).mono ?_
                      (case side1 => exact cT_ (Kd.C_below HR0_0.out HB.out))
                      (case side2 => exact HC0_0.out)
                      (case side3 => exact cT_ (Kd.C_below HR0_1.out HB.out))
                      (case side4 => exact HC0_1.out)
                      (case side5 => exact cT_ (Kd.C_below HR0_3.out HB.out))
                      (case side6 => exact HC0_3.out)
                      rintro e w113 ⟨rfl, hb⟩
                      refine ⟨_, rfl, ?_⟩
                      replace BK109 := kB_ BK109 hb
                      replace HB := hB_ hb
                      (try clear hb)
                      (try clear hb2)
                      (try clear hk)
                      (try clear hi)
                      refine hK.out _ _ ⟨(blk_cell BK109.out 0).trans rfl, (blk_cell BK109.out 1).trans rfl, (blk_cell BK109.out 2).trans rfl, (blk_cell BK109.out 3).trans rfl, ((HB.out.cell (World.block_lt_of_cell? w _ hw120_0)).trans hw120_0), ((HB.out.cell (World.block_lt_of_cell? w _ hw120_1)).trans hw120_1)⟩ (fun hHeld => ?_)
                      clear hK K
                      refine nS_ ?_
                      refine pS_ 9 129 (mb_ 14 1023) ?_
                      refine pS_ 10 139 (mb_ 14 2047) ?_
                      refine pS_ 11 140 (mb_ 14 4095) ?_
                      refine pS_ 12 10 (mb_ 14 8191) ?_
                      refine pS_ 13 11 (mb_ 14 16383) ?_
                      refine done_ (done_of HT_.out (by kernel_rfl)) ?_
                      try go_wp2
                      go_roundg k4
                      case measure => have := HJ1.out; have := HK2.out; have := HK3.out; have := HK4.out; omega
                      case rel => exact ⟨(wrap64 (x9_4 + 1)), r1_, H', ⟨by have := HJ1.out; have := HK2.out; have := HK3.out; have := HK4.out; omega⟩, ⟨bT_ BK109.out⟩, ⟨beT_⟩⟩
                    rw [if_neg c96] at H
                    exact absurd H (by simp)
                  rw [if_neg c95] at H
                  have c95b0 : decide (x9_4 < (l0_1.length : Int)) = false := decide_eq_false c95
                  clear c95
                  obtain rfl := Option.some.inj H
                  obtain ⟨hcz114_0, hcz114_1, hcz114_2, hcz114_3, hfz114_0, hfz114_1, hfz114_2, hfz114_3⟩ := b4_ BK109.out
                  go_wp2
                  go_ret
                  exact ⟨r3_, beT_⟩

end Go.Proofs.Ytgkjdpdmmlalcaa.F
end
