import Derived.Test.YtgkjdpdmmlalcaaVZF0
import Derived.Test.YtgkjdpdmmlalcaaVA0
import Derived.Test.YtgkjdpdmmlalcaaVA12FFerryref03Same
import Derived.Test.YtgkjdpdmmlalcaaVA27FEq41
section
namespace Go.Proofs.Ytgkjdpdmmlalcaa.F
open Go.RowKit Go.Proofs.YtgkjdpdmmlalcaaW.PrintWords Go.Proofs.YtgkjdpdmmlalcaaW.PrintLast Go.Proofs.YtgkjdpdmmlalcaaW.PrintMore
attribute [local go_sem] max2_int min2_int max_two min_two max_three min_three max_four min_four
set_option linter.unusedVariables false
set_option linter.unusedSimpArgs false

attribute [local go_sem high] eqA41
mutual
def ferryref04_Same.j0 : Nat → Bool → List (S83) → List (S88) → Int → List (S41) → List (S83) → List (S88) → Int → List (S41) → Option (Bool)
  | 0, _, _, _, _, _, _, _, _, _ => none
  | k + 1, x27, x341000, x341001, x341002, x341003, x342000, x342001, x342002, x342003 => if x27 = true then (some false) else (ferryref04_Same.l0 k 0 x341000 x341001 x341002 x341003 x342000 x342001 x342002 x342003)
def ferryref04_Same.l0 : Nat → Int → List (S83) → List (S88) → Int → List (S41) → List (S83) → List (S88) → Int → List (S41) → Option (Bool)
  | 0, _, _, _, _, _, _, _, _, _ => none
  | k + 1, x5, x341000, x341001, x341002, x341003, x342000, x342001, x342002, x342003 => if x5 < (x341003.length : Int) then (if 0 ≤ x5 then (if x5 < (x342003.length : Int) then (if (!(((rd_T41 x341003 x5).f0) == ((rd_T41 x342003 x5).f0)) || (!(((rd_T41 x341003 x5).f1) == ((rd_T41 x342003 x5).f1)))) = true then (some false) else (ferryref04_Same.l0 k (wrap64 (x5 + 1)) x341000 x341001 x341002 x341003 x342000 x342001 x342002 x342003)) else (none)) else (none)) else (some true)
end
def ferryref04_Same.f (k : Nat) (l0_0 : List (S83)) (l0_1 : List (S88)) (a0_2 : Int) (l0_3 : List (S41)) (l1_0 : List (S83)) (l1_1 : List (S88)) (a1_2 : Int) (l1_3 : List (S41)) : Option (Bool) := (ferryref03_Same.f k l0_0 l0_1 l1_0 l1_1).bind fun t342 => (if t342 = true then (if a0_2 = a1_2 then (ferryref04_Same.j0 k ((l0_3.length : Int) != (l1_3.length : Int)) l0_0 l0_1 a0_2 l0_3 l1_0 l1_1 a1_2 l1_3) else (ferryref04_Same.j0 k true l0_0 l0_1 a0_2 l0_3 l1_0 l1_1 a1_2 l1_3)) else (ferryref04_Same.j0 k true l0_0 l0_1 a0_2 l0_3 l1_0 l1_1 a1_2 l1_3))
set_option maxHeartbeats 8000000 in
set_option maxRecDepth 100000 in
theorem ferryref04_Same.calls (k : Nat) (A0_0 : Option Addr) (c0_0 : Nat) (l0_0 : List (S83)) (A0_1 : Option Addr) (c0_1 : Nat) (l0_1 : List (S88)) (a0_2 : Int) (A0_3 : Option Addr) (c0_3 : Nat) (l0_3 : List (S41)) (A1_0 : Option Addr) (c1_0 : Nat) (l1_0 : List (S83)) (A1_1 : Option Addr) (c1_1 : Nat) (l1_1 : List (S88)) (a1_2 : Int) (A1_3 : Option Addr) (c1_3 : Nat) (l1_3 : List (S41)) (r : Bool) (w : World) (hr0_0 : Kd.C k83 w A0_0 l0_0.length l0_0) (hc0_0 : l0_0.length ≤ c0_0) (hr0_1 : Kd.C k88 w A0_1 l0_1.length l0_1) (hc0_1 : l0_1.length ≤ c0_1) (hr0_3 : Kd.C k41 w A0_3 l0_3.length l0_3) (hc0_3 : l0_3.length ≤ c0_3) (hr1_0 : Kd.C k83 w A1_0 l1_0.length l1_0) (hc1_0 : l1_0.length ≤ c1_0) (hr1_1 : Kd.C k88 w A1_1 l1_1.length l1_1) (hc1_1 : l1_1.length ≤ c1_1) (hr1_3 : Kd.C k41 w A1_3 l1_3.length l1_3) (hc1_3 : l1_3.length ≤ c1_3) (h : ferryref04_Same.f k l0_0 l0_1 a0_2 l0_3 l1_0 l1_1 a1_2 l1_3 = some r) :
    Calls Try.prog 12 #[.agg #[.slice A0_0 l0_0.length c0_0, .slice A0_1 l0_1.length c0_1, .int .u64 a0_2, .slice A0_3 l0_3.length c0_3], .agg #[.slice A1_0 l1_0.length c1_0, .slice A1_1 l1_1.length c1_1, .int .u64 a1_2, .slice A1_3 l1_3.length c1_3]] w fun e w' => e = .returned (.bool r) ∧ Below w.heap.size w w' := by
  have hu29 := Try.underlying29
  have hu25 := Try.underlying25
  have hu41 := Try.underlying41
  have HR0_0 := Aside0.mk hr0_0
  have HC0_0 := Aside0.mk hc0_0
  clear hr0_0 hc0_0
  have HR0_1 := Aside0.mk hr0_1
  have HC0_1 := Aside0.mk hc0_1
  clear hr0_1 hc0_1
  have HR0_3 := Aside0.mk hr0_3
  have HC0_3 := Aside0.mk hc0_3
  clear hr0_3 hc0_3
  have HR1_0 := Aside0.mk hr1_0
  have HC1_0 := Aside0.mk hc1_0
  clear hr1_0 hc1_0
  have HR1_1 := Aside0.mk hr1_1
  have HC1_1 := Aside0.mk hc1_1
  clear hr1_1 hc1_1
  have HR1_3 := Aside0.mk hr1_3
  have HC1_3 := Aside0.mk hc1_3
  clear hr1_3 hc1_3
  have HB := Aside0.mk (Below.refl w.heap.size w)
  have H : ((ferryref03_Same.f k l0_0 l0_1 l1_0 l1_1).bind fun t342 => (if t342 = true then (if a0_2 = a1_2 then (ferryref04_Same.j0 k ((l0_3.length : Int) != (l1_3.length : Int)) l0_0 l0_1 a0_2 l0_3 l1_0 l1_1 a1_2 l1_3) else (ferryref04_Same.j0 k true l0_0 l0_1 a0_2 l0_3 l1_0 l1_1 a1_2 l1_3)) else (ferryref04_Same.j0 k true l0_0 l0_1 a0_2 l0_3 l1_0 l1_1 a1_2 l1_3))) = some r := h
  clear h
  have HC3 := Aside0.mk H
  clear H
  go_enter Try.func12, Try.ntmps12
  go_upto_region 1 with (first | ((with_reducible refine gate_dst (N := 2) rfl ?_); (try (refine gate_guard (by rfl) ?_; dsimp only)); refine bE_ 2 #[.slice A0_0 l0_0.length c0_0, .slice A0_1 l0_1.length c0_1, .int .u64 a0_2, .slice A0_3 l0_3.length c0_3] 29 ?_; intro gb340 hg w4 hbox hb; have BK340 := Aside0.mk hbox; have GW340 := geT_ w.heap.size hg; have GE340 := geT_ w.heap.size hg; replace HB := hB_ hb; clear hb hbox hg) | ((with_reducible refine gate_dst (N := 3) rfl ?_); (try (refine gate_guard (by rfl) ?_; dsimp only)); refine bE_ 3 #[.slice A1_0 l1_0.length c1_0, .slice A1_1 l1_1.length c1_1, .int .u64 a1_2, .slice A1_3 l1_3.length c1_3] 29 ?_; intro gb341 hg w5 hbox hb; have BK341 := Aside0.mk hbox; have GW341 := geT_ w.heap.size hg; have GE341 := geT_ w.heap.size hg; have NB340_341 := nlT_ BK340.out hg; have NB341_340 := ngT_ BK340.out hg; replace BK340 := kB_ BK340 hb; replace HB := hB_ hb; clear hb hbox hg))
  repeat (go_quiet (first | ((with_reducible refine gate_dst (N := 2) rfl ?_); (try (refine gate_guard (by rfl) ?_; dsimp only)); refine bE_ 2 #[.slice A0_0 l0_0.length c0_0, .slice A0_1 l0_1.length c0_1, .int .u64 a0_2, .slice A0_3 l0_3.length c0_3] 29 ?_; intro gb340 hg w4 hbox hb; have BK340 := Aside0.mk hbox; have GW340 := geT_ w.heap.size hg; have GE340 := geT_ w.heap.size hg; replace HB := hB_ hb; clear hb hbox hg) | ((with_reducible refine gate_dst (N := 3) rfl ?_); (try (refine gate_guard (by rfl) ?_; dsimp only)); refine bE_ 3 #[.slice A1_0 l1_0.length c1_0, .slice A1_1 l1_1.length c1_1, .int .u64 a1_2, .slice A1_3 l1_3.length c1_3] 29 ?_; intro gb341 hg w5 hbox hb; have BK341 := Aside0.mk hbox; have GW341 := geT_ w.heap.size hg; have GE341 := geT_ w.heap.size hg; have NB340_341 := nlT_ BK340.out hg; have NB341_340 := ngT_ BK340.out hg; replace BK340 := kB_ BK340 hb; replace HB := hB_ hb; clear hb hbox hg)); go_upto_region 1 with (first | ((with_reducible refine gate_dst (N := 2) rfl ?_); (try (refine gate_guard (by rfl) ?_; dsimp only)); refine bE_ 2 #[.slice A0_0 l0_0.length c0_0, .slice A0_1 l0_1.length c0_1, .int .u64 a0_2, .slice A0_3 l0_3.length c0_3] 29 ?_; intro gb340 hg w4 hbox hb; have BK340 := Aside0.mk hbox; have GW340 := geT_ w.heap.size hg; have GE340 := geT_ w.heap.size hg; replace HB := hB_ hb; clear hb hbox hg) | ((with_reducible refine gate_dst (N := 3) rfl ?_); (try (refine gate_guard (by rfl) ?_; dsimp only)); refine bE_ 3 #[.slice A1_0 l1_0.length c1_0, .slice A1_1 l1_1.length c1_1, .int .u64 a1_2, .slice A1_3 l1_3.length c1_3] 29 ?_; intro gb341 hg w5 hbox hb; have BK341 := Aside0.mk hbox; have GW341 := geT_ w.heap.size hg; have GE341 := geT_ w.heap.size hg; have NB340_341 := nlT_ BK340.out hg; have NB341_340 := ngT_ BK340.out hg; replace BK340 := kB_ BK340 hb; replace HB := hB_ hb; clear hb hbox hg)))
  (try simp only [Act.put, List.setIfInBounds_toArray, List.set_cons_zero, List.set_cons_succ])
  go_cut [27] (fun v27 wc => ∃ (kq : Nat) (x27_2 : Bool), v27 = .bool x27_2 ∧ Aside0 (ferryref04_Same.j0 kq x27_2 l0_0 l0_1 a0_2 l0_3 l1_0 l1_1 a1_2 l1_3 = some r) ∧ Aside0 (kq ≤ k) ∧ Aside0 (wc.heap[gb340]? = some (.cells #[(.slice A0_0 l0_0.length c0_0), (.slice A0_1 l0_1.length c0_1), .int .u64 a0_2, (.slice A0_3 l0_3.length c0_3)] 29 (0, 0))) ∧ Aside0 (wc.heap[gb341]? = some (.cells #[(.slice A1_0 l1_0.length c1_0), (.slice A1_1 l1_1.length c1_1), .int .u64 a1_2, (.slice A1_3 l1_3.length c1_3)] 29 (0, 0))) ∧ Aside0 (Below w.heap.size w wc))
  case first =>
    have H := HC3.out
    clear HC3
    replace H := Option.bind_eq_some_iff.mp H
    obtain ⟨t342, A60, H⟩ := H
    have A6 := Aside0.mk A60
    clear A60
    by_cases c7 : t342 = true
    · subst c7
      replace H := hP_ H
      by_cases c8 : a0_2 = a1_2
      · rw [if_pos c8] at H
        have c8b0 : (a0_2 == a1_2) = true := beq_iff_eq.mpr c8
        have c8b1 : (a0_2 != a1_2) = false := bne_eq_false_iff_eq.mpr c8
        clear c8
        (first | rw [c8b0] | (simp only [i64_w, i32_w]; rw [c8b0]) | skip)
        have H' := Aside0.mk H
        clear H
        have hnb9 := NB340_341.out
        have hnc9 := NB341_340.out
        obtain ⟨hcz10_0, hcz10_1, hcz10_2, hcz10_3, hfz10_0, hfz10_1, hfz10_2, hfz10_3⟩ := b4_ BK340.out
        obtain ⟨hcz11_0, hcz11_1, hcz11_2, hcz11_3, hfz11_0, hfz11_1, hfz11_2, hfz11_3⟩ := b4_ BK341.out
        go_wp2_with (first | (go_at_call 40; (with_reducible refine (ferryref03_Same.calls k _ _ l0_0 _ _ l0_1 _ _ l1_0 _ _ l1_1 true _ ?side1 ?side2 ?side3 ?side4 ?side5 ?side6 ?side7 ?side8 A6.out).mono ?_); (case side1 => exact cT_ (Kd.C_below HR0_0.out HB.out)); (case side2 => exact HC0_0.out); (case side3 => exact cT_ (Kd.C_below HR0_1.out HB.out)); (case side4 => exact HC0_1.out); (case side5 => exact cT_ (Kd.C_below HR1_0.out HB.out)); (case side6 => exact HC1_0.out); (case side7 => exact cT_ (Kd.C_below HR1_1.out HB.out)); (case side8 => exact HC1_1.out); rintro e w12 ⟨rfl, hb⟩; replace BK340 := kB_ BK340 hb; replace BK341 := kB_ BK341 hb; replace HB := hB_ hb; (try clear hb); (try clear hb2); (try clear hk); (try clear hi); obtain ⟨hcz13_0, hcz13_1, hcz13_2, hcz13_3, hfz13_0, hfz13_1, hfz13_2, hfz13_3⟩ := b4_ BK340.out; obtain ⟨hcz14_0, hcz14_1, hcz14_2, hcz14_3, hfz14_0, hfz14_1, hfz14_2, hfz14_3⟩ := b4_ BK341.out))
        repeat (go_quiet (first | (go_at_call 40; (with_reducible refine (ferryref03_Same.calls k _ _ l0_0 _ _ l0_1 _ _ l1_0 _ _ l1_1 true _ ?side1 ?side2 ?side3 ?side4 ?side5 ?side6 ?side7 ?side8 A6.out).mono ?_); (case side1 => exact cT_ (Kd.C_below HR0_0.out HB.out)); (case side2 => exact HC0_0.out); (case side3 => exact cT_ (Kd.C_below HR0_1.out HB.out)); (case side4 => exact HC0_1.out); (case side5 => exact cT_ (Kd.C_below HR1_0.out HB.out)); (case side6 => exact HC1_0.out); (case side7 => exact cT_ (Kd.C_below HR1_1.out HB.out)); (case side8 => exact HC1_1.out); rintro e w12 ⟨rfl, hb⟩; replace BK340 := kB_ BK340 hb; replace BK341 := kB_ BK341 hb; replace HB := hB_ hb; (try clear hb); (try clear hb2); (try clear hk); (try clear hi); obtain ⟨hcz13_0, hcz13_1, hcz13_2, hcz13_3, hfz13_0, hfz13_1, hfz13_2, hfz13_3⟩ := b4_ BK340.out; obtain ⟨hcz14_0, hcz14_1, hcz14_2, hcz14_3, hfz14_0, hfz14_1, hfz14_2, hfz14_3⟩ := b4_ BK341.out)); try go_wp2_with (first | (go_at_call 40; (with_reducible refine (ferryref03_Same.calls k _ _ l0_0 _ _ l0_1 _ _ l1_0 _ _ l1_1 true _ ?side1 ?side2 ?side3 ?side4 ?side5 ?side6 ?side7 ?side8 A6.out).mono ?_); (case side1 => exact cT_ (Kd.C_below HR0_0.out HB.out)); (case side2 => exact HC0_0.out); (case side3 => exact cT_ (Kd.C_below HR0_1.out HB.out)); (case side4 => exact HC0_1.out); (case side5 => exact cT_ (Kd.C_below HR1_0.out HB.out)); (case side6 => exact HC1_0.out); (case side7 => exact cT_ (Kd.C_below HR1_1.out HB.out)); (case side8 => exact HC1_1.out); rintro e w12 ⟨rfl, hb⟩; replace BK340 := kB_ BK340 hb; replace BK341 := kB_ BK341 hb; replace HB := hB_ hb; (try clear hb); (try clear hb2); (try clear hk); (try clear hi); obtain ⟨hcz13_0, hcz13_1, hcz13_2, hcz13_3, hfz13_0, hfz13_1, hfz13_2, hfz13_3⟩ := b4_ BK340.out; obtain ⟨hcz14_0, hcz14_1, hcz14_2, hcz14_3, hfz14_0, hfz14_1, hfz14_2, hfz14_3⟩ := b4_ BK341.out)))
        go_meet
        case rel => exact ⟨_, (((l0_3.length : Int) != (l1_3.length : Int))), r1_, H', ⟨r2_⟩, ⟨bT_ BK340.out⟩, ⟨bT_ BK341.out⟩, ⟨beT_⟩⟩
      rw [if_neg c8] at H
      have c8b0 : (a0_2 == a1_2) = false := beq_eq_false_iff_ne.mpr c8
      have c8b1 : (a0_2 != a1_2) = true := bne_iff_ne.mpr c8
      (first | rw [c8b0] | (simp only [i64_w, i32_w]; rw [c8b0]) | skip)
      have H' := Aside0.mk H
      clear H
      have hnb15 := NB340_341.out
      have hnc15 := NB341_340.out
      obtain ⟨hcz16_0, hcz16_1, hcz16_2, hcz16_3, hfz16_0, hfz16_1, hfz16_2, hfz16_3⟩ := b4_ BK340.out
      obtain ⟨hcz17_0, hcz17_1, hcz17_2, hcz17_3, hfz17_0, hfz17_1, hfz17_2, hfz17_3⟩ := b4_ BK341.out
      go_wp2_with (first | (go_at_call 40; (with_reducible refine (ferryref03_Same.calls k _ _ l0_0 _ _ l0_1 _ _ l1_0 _ _ l1_1 true _ ?side1 ?side2 ?side3 ?side4 ?side5 ?side6 ?side7 ?side8 A6.out).mono ?_); (case side1 => exact cT_ (Kd.C_below HR0_0.out HB.out)); (case side2 => exact HC0_0.out); (case side3 => exact cT_ (Kd.C_below HR0_1.out HB.out)); (case side4 => exact HC0_1.out); (case side5 => exact cT_ (Kd.C_below HR1_0.out HB.out)); (case side6 => exact HC1_0.out); (case side7 => exact cT_ (Kd.C_below HR1_1.out HB.out)); (case side8 => exact HC1_1.out); rintro e w18 ⟨rfl, hb⟩; replace BK340 := kB_ BK340 hb; replace BK341 := kB_ BK341 hb; replace HB := hB_ hb; (try clear hb); (try clear hb2); (try clear hk); (try clear hi); obtain ⟨hcz19_0, hcz19_1, hcz19_2, hcz19_3, hfz19_0, hfz19_1, hfz19_2, hfz19_3⟩ := b4_ BK340.out; obtain ⟨hcz20_0, hcz20_1, hcz20_2, hcz20_3, hfz20_0, hfz20_1, hfz20_2, hfz20_3⟩ := b4_ BK341.out))
      repeat (go_quiet (first | (go_at_call 40; (with_reducible refine (ferryref03_Same.calls k _ _ l0_0 _ _ l0_1 _ _ l1_0 _ _ l1_1 true _ ?side1 ?side2 ?side3 ?side4 ?side5 ?side6 ?side7 ?side8 A6.out).mono ?_); (case side1 => exact cT_ (Kd.C_below HR0_0.out HB.out)); (case side2 => exact HC0_0.out); (case side3 => exact cT_ (Kd.C_below HR0_1.out HB.out)); (case side4 => exact HC0_1.out); (case side5 => exact cT_ (Kd.C_below HR1_0.out HB.out)); (case side6 => exact HC1_0.out); (case side7 => exact cT_ (Kd.C_below HR1_1.out HB.out)); (case side8 => exact HC1_1.out); rintro e w18 ⟨rfl, hb⟩; replace BK340 := kB_ BK340 hb; replace BK341 := kB_ BK341 hb; replace HB := hB_ hb; (try clear hb); (try clear hb2); (try clear hk); (try clear hi); obtain ⟨hcz19_0, hcz19_1, hcz19_2, hcz19_3, hfz19_0, hfz19_1, hfz19_2, hfz19_3⟩ := b4_ BK340.out; obtain ⟨hcz20_0, hcz20_1, hcz20_2, hcz20_3, hfz20_0, hfz20_1, hfz20_2, hfz20_3⟩ := b4_ BK341.out)); try go_wp2_with (first | (go_at_call 40; (with_reducible refine (ferryref03_Same.calls k _ _ l0_0 _ _ l0_1 _ _ l1_0 _ _ l1_1 true _ ?side1 ?side2 ?side3 ?side4 ?side5 ?side6 ?side7 ?side8 A6.out).mono ?_); (case side1 => exact cT_ (Kd.C_below HR0_0.out HB.out)); (case side2 => exact HC0_0.out); (case side3 => exact cT_ (Kd.C_below HR0_1.out HB.out)); (case side4 => exact HC0_1.out); (case side5 => exact cT_ (Kd.C_below HR1_0.out HB.out)); (case side6 => exact HC1_0.out); (case side7 => exact cT_ (Kd.C_below HR1_1.out HB.out)); (case side8 => exact HC1_1.out); rintro e w18 ⟨rfl, hb⟩; replace BK340 := kB_ BK340 hb; replace BK341 := kB_ BK341 hb; replace HB := hB_ hb; (try clear hb); (try clear hb2); (try clear hk); (try clear hi); obtain ⟨hcz19_0, hcz19_1, hcz19_2, hcz19_3, hfz19_0, hfz19_1, hfz19_2, hfz19_3⟩ := b4_ BK340.out; obtain ⟨hcz20_0, hcz20_1, hcz20_2, hcz20_3, hfz20_0, hfz20_1, hfz20_2, hfz20_3⟩ := b4_ BK341.out)))
      go_meet
      case rel => exact ⟨_, (true), r1_, H', ⟨r2_⟩, ⟨bT_ BK340.out⟩, ⟨bT_ BK341.out⟩, ⟨beT_⟩⟩
    replace c7 := Bool.eq_false_iff.mpr c7
    subst c7
    replace H := hN_ H
    have H' := Aside0.mk H
    clear H
    have hnb21 := NB340_341.out
    have hnc21 := NB341_340.out
    obtain ⟨hcz22_0, hcz22_1, hcz22_2, hcz22_3, hfz22_0, hfz22_1, hfz22_2, hfz22_3⟩ := b4_ BK340.out
    obtain ⟨hcz23_0, hcz23_1, hcz23_2, hcz23_3, hfz23_0, hfz23_1, hfz23_2, hfz23_3⟩ := b4_ BK341.out
    go_wp2_with (first | (go_at_call 40; (with_reducible refine (ferryref03_Same.calls k _ _ l0_0 _ _ l0_1 _ _ l1_0 _ _ l1_1 false _ ?side1 ?side2 ?side3 ?side4 ?side5 ?side6 ?side7 ?side8 A6.out).mono ?_); (case side1 => exact cT_ (Kd.C_below HR0_0.out HB.out)); (case side2 => exact HC0_0.out); (case side3 => exact cT_ (Kd.C_below HR0_1.out HB.out)); (case side4 => exact HC0_1.out); (case side5 => exact cT_ (Kd.C_below HR1_0.out HB.out)); (case side6 => exact HC1_0.out); (case side7 => exact cT_ (Kd.C_below HR1_1.out HB.out)); (case side8 => exact HC1_1.out); rintro e w24 ⟨rfl, hb⟩; replace BK340 := kB_ BK340 hb; replace BK341 := kB_ BK341 hb; replace HB := hB_ hb; (try clear hb); (try clear hb2); (try clear hk); (try clear hi)))
    repeat (go_quiet (first | (go_at_call 40; (with_reducible refine (ferryref03_Same.calls k _ _ l0_0 _ _ l0_1 _ _ l1_0 _ _ l1_1 false _ ?side1 ?side2 ?side3 ?side4 ?side5 ?side6 ?side7 ?side8 A6.out).mono ?_); (case side1 => exact cT_ (Kd.C_below HR0_0.out HB.out)); (case side2 => exact HC0_0.out); (case side3 => exact cT_ (Kd.C_below HR0_1.out HB.out)); (case side4 => exact HC0_1.out); (case side5 => exact cT_ (Kd.C_below HR1_0.out HB.out)); (case side6 => exact HC1_0.out); (case side7 => exact cT_ (Kd.C_below HR1_1.out HB.out)); (case side8 => exact HC1_1.out); rintro e w24 ⟨rfl, hb⟩; replace BK340 := kB_ BK340 hb; replace BK341 := kB_ BK341 hb; replace HB := hB_ hb; (try clear hb); (try clear hb2); (try clear hk); (try clear hi))); try go_wp2_with (first | (go_at_call 40; (with_reducible refine (ferryref03_Same.calls k _ _ l0_0 _ _ l0_1 _ _ l1_0 _ _ l1_1 false _ ?side1 ?side2 ?side3 ?side4 ?side5 ?side6 ?side7 ?side8 A6.out).mono ?_); (case side1 => exact cT_ (Kd.C_below HR0_0.out HB.out)); (case side2 => exact HC0_0.out); (case side3 => exact cT_ (Kd.C_below HR0_1.out HB.out)); (case side4 => exact HC0_1.out); (case side5 => exact cT_ (Kd.C_below HR1_0.out HB.out)); (case side6 => exact HC1_0.out); (case side7 => exact cT_ (Kd.C_below HR1_1.out HB.out)); (case side8 => exact HC1_1.out); rintro e w24 ⟨rfl, hb⟩; replace BK340 := kB_ BK340 hb; replace BK341 := kB_ BK341 hb; replace HB := hB_ hb; (try clear hb); (try clear hb2); (try clear hk); (try clear hi))))
    go_meet
    case rel => exact ⟨_, (true), r1_, H', ⟨r2_⟩, ⟨bT_ BK340.out⟩, ⟨bT_ BK341.out⟩, ⟨beT_⟩⟩
  case rest =>
    clear HC3
    try clear c1
    try clear c2
    try clear p2
    try clear c7
    try clear c8
    try clear c8b0
    try clear c8b1
    try clear c9
    try clear c12
    try clear c15
    try clear c21
    try clear hcz10_0
    try clear hcz10_1
    try clear hcz10_2
    try clear hcz10_3
    try clear hcz11_0
    try clear hcz11_1
    try clear hcz11_2
    try clear hcz11_3
    try clear hcz13_0
    try clear hcz13_1
    try clear hcz13_2
    try clear hcz13_3
    try clear hcz14_0
    try clear hcz14_1
    try clear hcz14_2
    try clear hcz14_3
    try clear hcz16_0
    try clear hcz16_1
    try clear hcz16_2
    try clear hcz16_3
    try clear hcz17_0
    try clear hcz17_1
    try clear hcz17_2
    try clear hcz17_3
    try clear hcz19_0
    try clear hcz19_1
    try clear hcz19_2
    try clear hcz19_3
    try clear hcz20_0
    try clear hcz20_1
    try clear hcz20_2
    try clear hcz20_3
    try clear hcz22_0
    try clear hcz22_1
    try clear hcz22_2
    try clear hcz22_3
    try clear hcz23_0
    try clear hcz23_1
    try clear hcz23_2
    try clear hcz23_3
    try clear hfz10_0
    try clear hfz10_1
    try clear hfz10_2
    try clear hfz10_3
    try clear hfz11_0
    try clear hfz11_1
    try clear hfz11_2
    try clear hfz11_3
    try clear hfz13_0
    try clear hfz13_1
    try clear hfz13_2
    try clear hfz13_3
    try clear hfz14_0
    try clear hfz14_1
    try clear hfz14_2
    try clear hfz14_3
    try clear hfz16_0
    try clear hfz16_1
    try clear hfz16_2
    try clear hfz16_3
    try clear hfz17_0
    try clear hfz17_1
    try clear hfz17_2
    try clear hfz17_3
    try clear hfz19_0
    try clear hfz19_1
    try clear hfz19_2
    try clear hfz19_3
    try clear hfz20_0
    try clear hfz20_1
    try clear hfz20_2
    try clear hfz20_3
    try clear hfz22_0
    try clear hfz22_1
    try clear hfz22_2
    try clear hfz22_3
    try clear hfz23_0
    try clear hfz23_1
    try clear hfz23_2
    try clear hfz23_3
    obtain ⟨kq, x27_2, rfl, HA, HJ2, BK340, BK341, HB⟩ := hcut
    cases kq with
    | zero => exact absurd HA.out (by simp [ferryref04_Same.j0])
    | succ kj2 =>
      have H := HA.out
      clear HA
      simp only [ferryref04_Same.j0] at H
      by_cases c25 : x27_2 = true
      · subst c25
        replace H := hP_ H
        obtain rfl := Option.some.inj H
        go_wp2
        repeat (go_quiet (fail); try go_wp2)
        go_ret
        exact ⟨r3_, beT_⟩
      replace c25 := Bool.eq_false_iff.mpr c25
      subst c25
      replace H := hN_ H
      have H' := Aside0.mk H
      clear H
      go_wp2
      repeat (go_quiet (fail); try go_wp2)
      go_loopg [5] kj2 (fun kq v5 w' => ∃ (x5_2 : Int), v5 = .int .i64 x5_2 ∧ Aside0 (ferryref04_Same.l0 kq x5_2 l0_0 l0_1 a0_2 l0_3 l1_0 l1_1 a1_2 l1_3 = some r) ∧ Aside0 (kq ≤ kj2) ∧ Aside0 (w'.heap[gb340]? = some (.cells #[(.slice A0_0 l0_0.length c0_0), (.slice A0_1 l0_1.length c0_1), .int .u64 a0_2, (.slice A0_3 l0_3.length c0_3)] 29 (0, 0))) ∧ Aside0 (w'.heap[gb341]? = some (.cells #[(.slice A1_0 l1_0.length c1_0), (.slice A1_1 l1_1.length c1_1), .int .u64 a1_2, (.slice A1_3 l1_3.length c1_3)] 29 (0, 0))) ∧ Aside0 (Below w.heap.size w w'))
      case atStart => exact ⟨(0), r1_, H', ⟨Nat.le_refl _⟩, ⟨bT_ BK340.out⟩, ⟨bT_ BK341.out⟩, ⟨beT_⟩⟩
      case round =>
        clear H'
        try clear c1
        try clear c2
        try clear p2
        try clear c7
        try clear c8
        try clear c8b0
        try clear c8b1
        try clear c9
        try clear c12
        try clear c15
        try clear c21
        try clear c25
        try clear hcz10_0
        try clear hcz10_1
        try clear hcz10_2
        try clear hcz10_3
        try clear hcz11_0
        try clear hcz11_1
        try clear hcz11_2
        try clear hcz11_3
        try clear hcz13_0
        try clear hcz13_1
        try clear hcz13_2
        try clear hcz13_3
        try clear hcz14_0
        try clear hcz14_1
        try clear hcz14_2
        try clear hcz14_3
        try clear hcz16_0
        try clear hcz16_1
        try clear hcz16_2
        try clear hcz16_3
        try clear hcz17_0
        try clear hcz17_1
        try clear hcz17_2
        try clear hcz17_3
        try clear hcz19_0
        try clear hcz19_1
        try clear hcz19_2
        try clear hcz19_3
        try clear hcz20_0
        try clear hcz20_1
        try clear hcz20_2
        try clear hcz20_3
        try clear hcz22_0
        try clear hcz22_1
        try clear hcz22_2
        try clear hcz22_3
        try clear hcz23_0
        try clear hcz23_1
        try clear hcz23_2
        try clear hcz23_3
        try clear hfz10_0
        try clear hfz10_1
        try clear hfz10_2
        try clear hfz10_3
        try clear hfz11_0
        try clear hfz11_1
        try clear hfz11_2
        try clear hfz11_3
        try clear hfz13_0
        try clear hfz13_1
        try clear hfz13_2
        try clear hfz13_3
        try clear hfz14_0
        try clear hfz14_1
        try clear hfz14_2
        try clear hfz14_3
        try clear hfz16_0
        try clear hfz16_1
        try clear hfz16_2
        try clear hfz16_3
        try clear hfz17_0
        try clear hfz17_1
        try clear hfz17_2
        try clear hfz17_3
        try clear hfz19_0
        try clear hfz19_1
        try clear hfz19_2
        try clear hfz19_3
        try clear hfz20_0
        try clear hfz20_1
        try clear hfz20_2
        try clear hfz20_3
        try clear hfz22_0
        try clear hfz22_1
        try clear hfz22_2
        try clear hfz22_3
        try clear hfz23_0
        try clear hfz23_1
        try clear hfz23_2
        try clear hfz23_3
        try clear p2
        obtain ⟨x5_2, rfl, HA, HK2, BK340, BK341, HB⟩ := hrel
        cases gk with
        | zero => exact absurd HA.out (by simp [ferryref04_Same.l0])
        | succ k2 =>
          have H := HA.out
          clear HA
          simp only [ferryref04_Same.l0] at H
          by_cases c26 : x5_2 < (l0_3.length : Int)
          · rw [if_pos c26] at H
            have c26b0 : decide (x5_2 < (l0_3.length : Int)) = true := decide_eq_true c26
            clear c26
            by_cases c27 : 0 ≤ x5_2
            · rw [if_pos c27] at H
              have c27b0 : decide (0 ≤ x5_2) = true := decide_eq_true c27
              clear c27
              by_cases c28 : x5_2 < (l1_3.length : Int)
              · rw [if_pos c28] at H
                have c28b0 : decide (x5_2 < (l1_3.length : Int)) = true := decide_eq_true c28
                clear c28
                by_cases c29 : (!(((rd_T41 l0_3 x5_2).f0) == ((rd_T41 l1_3 x5_2).f0)) || (!(((rd_T41 l0_3 x5_2).f1) == ((rd_T41 l1_3 x5_2).f1)))) = true
                · rw [if_pos c29] at H
                  have c29b0 : (!(((rd_T41 l0_3 x5_2).f0) == ((rd_T41 l1_3 x5_2).f0)) || (!(((rd_T41 l0_3 x5_2).f1) == ((rd_T41 l1_3 x5_2).f1)))) = true := c29
                  clear c29
                  obtain rfl := Option.some.inj H
                  have hnb30 := NB340_341.out
                  have hnc30 := NB341_340.out
                  obtain ⟨hcz31_0, hcz31_1, hcz31_2, hcz31_3, hfz31_0, hfz31_1, hfz31_2, hfz31_3⟩ := b4_ BK340.out
                  have p343 : 0 ≤ (x5_2 : Int) := dT_
                  have q343 : x5_2 < (l0_3.length : Int) := dT_
                  obtain ⟨ad343, e343, hx343_0, hx343_1⟩ := at_T41 HR0_3.out x5_2 p343 q343
                  cases e343
                  replace hx343_0 := hX_ hx343_0
                  replace hx343_1 := hX_ hx343_1
                  replace p343 := eq_true p343
                  replace q343 := eq_true q343
                  obtain ⟨hcz32_0, hcz32_1, hcz32_2, hcz32_3, hfz32_0, hfz32_1, hfz32_2, hfz32_3⟩ := b4_ BK341.out
                  have p344 : 0 ≤ (x5_2 : Int) := dT_
                  have q344 : x5_2 < (l1_3.length : Int) := dT_
                  obtain ⟨ad344, e344, hx344_0, hx344_1⟩ := at_T41 HR1_3.out x5_2 p344 q344
                  cases e344
                  replace hx344_0 := hX_ hx344_0
                  replace hx344_1 := hX_ hx344_1
                  replace p344 := eq_true p344
                  replace q344 := eq_true q344
                  go_wp2
                  repeat (go_quiet (fail); try go_wp2)
                  go_ret
                  exact ⟨r3_, beT_⟩
                rw [if_neg c29] at H
                have c29b0 : (!(((rd_T41 l0_3 x5_2).f0) == ((rd_T41 l1_3 x5_2).f0)) || (!(((rd_T41 l0_3 x5_2).f1) == ((rd_T41 l1_3 x5_2).f1)))) = false := by simpa using c29
                clear c29
                have H' := Aside0.mk H
                clear H
                have hnb33 := NB340_341.out
                have hnc33 := NB341_340.out
                obtain ⟨hcz34_0, hcz34_1, hcz34_2, hcz34_3, hfz34_0, hfz34_1, hfz34_2, hfz34_3⟩ := b4_ BK340.out
                have p343 : 0 ≤ (x5_2 : Int) := dT_
                have q343 : x5_2 < (l0_3.length : Int) := dT_
                obtain ⟨ad343, e343, hx343_0, hx343_1⟩ := at_T41 HR0_3.out x5_2 p343 q343
                cases e343
                replace hx343_0 := hX_ hx343_0
                replace hx343_1 := hX_ hx343_1
                replace p343 := eq_true p343
                replace q343 := eq_true q343
                obtain ⟨hcz35_0, hcz35_1, hcz35_2, hcz35_3, hfz35_0, hfz35_1, hfz35_2, hfz35_3⟩ := b4_ BK341.out
                have p344 : 0 ≤ (x5_2 : Int) := dT_
                have q344 : x5_2 < (l1_3.length : Int) := dT_
                obtain ⟨ad344, e344, hx344_0, hx344_1⟩ := at_T41 HR1_3.out x5_2 p344 q344
                cases e344
                replace hx344_0 := hX_ hx344_0
                replace hx344_1 := hX_ hx344_1
                replace p344 := eq_true p344
                replace q344 := eq_true q344
                go_wp2
                repeat (go_quiet (fail); try go_wp2)
                go_roundg k2
                case measure => have := HJ2.out; have := HK2.out; omega
                case rel => exact ⟨(wrap64 (x5_2 + 1)), r1_, H', ⟨by have := HJ2.out; have := HK2.out; omega⟩, ⟨bT_ BK340.out⟩, ⟨bT_ BK341.out⟩, ⟨beT_⟩⟩
              rw [if_neg c28] at H
              exact absurd H (by simp)
            rw [if_neg c27] at H
            exact absurd H (by simp)
          rw [if_neg c26] at H
          have c26b0 : decide (x5_2 < (l0_3.length : Int)) = false := decide_eq_false c26
          clear c26
          obtain rfl := Option.some.inj H
          have hnb36 := NB340_341.out
          have hnc36 := NB341_340.out
          obtain ⟨hcz37_0, hcz37_1, hcz37_2, hcz37_3, hfz37_0, hfz37_1, hfz37_2, hfz37_3⟩ := b4_ BK340.out
          go_wp2
          repeat (go_quiet (fail); try go_wp2)
          go_ret
          exact ⟨r3_, beT_⟩

end Go.Proofs.Ytgkjdpdmmlalcaa.F
end
