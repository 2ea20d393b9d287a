import Derived.Test.YtgkjdpdmmlalcaaVZF0
import Derived.Test.YtgkjdpdmmlalcaaVA0
import Derived.Test.YtgkjdpdmmlalcaaVA4HHost3
import Derived.Test.YtgkjdpdmmlalcaaVA7
import Derived.Test.YtgkjdpdmmlalcaaVA9
import Derived.Test.YtgkjdpdmmlalcaaVA11
import Derived.Test.YtgkjdpdmmlalcaaVA13
import Derived.Test.YtgkjdpdmmlalcaaVA16HGuest7
import Derived.Test.YtgkjdpdmmlalcaaVA17
import Derived.Test.YtgkjdpdmmlalcaaVA18FGmapBrk
import Derived.Test.YtgkjdpdmmlalcaaVA19
import Derived.Test.YtgkjdpdmmlalcaaVA23FGmapMmap
import Derived.Test.YtgkjdpdmmlalcaaVA25FGmapMunmap
import Derived.Test.YtgkjdpdmmlalcaaVA26FFerrylaw06Awake
import Derived.Test.YtgkjdpdmmlalcaaVA29FFerryref06Same
section
namespace Go.Proofs.Ytgkjdpdmmlalcaa.F
open Go.RowKit Go.Proofs.YtgkjdpdmmlalcaaW.PrintWords Go.Proofs.YtgkjdpdmmlalcaaW.PrintLast Go.Proofs.YtgkjdpdmmlalcaaW.PrintMore
attribute [local go_sem] max2_int min2_int max_two min_two max_three min_three max_four min_four
attribute [local go_sem] cell_twice
set_option linter.unusedVariables false
set_option linter.unusedSimpArgs false

mutual
def ferrylaw06_GmapBack.j0 : Nat → Int → Int → Int → Bool → List (S83) → List (S88) → Int → List (S41) → Int → Int → Option (Bool)
  | 0, _, _, _, _, _, _, _, _, _, _ => none
  | k + 1, x1, x2, x3, x25, x835000, x835001, x835002, x835003, x835004, x835005 => if x25 = true then ((ferrylaw06_awake.f k).bind fun t837 => (some t837)) else ((gmap_Brk.f k x835000 x835001 x835002 x835003 x835004 x835005 x1).bind fun bt838 => (if bt838.2.2.2.2.2.2 = bt838.2.2.2.2.2.1 then (if bt838.2.2.2.2.2.2 = x1 then ((ferryref06_Fit.f k bt838.1 bt838.2.1 bt838.2.2.1 bt838.2.2.2.1 bt838.2.2.2.2.1 bt838.2.2.2.2.2.1).bind fun t852 => (ferrylaw06_GmapBack.j1 k x1 x2 x3 (!t852) x835000 x835001 x835002 x835003 x835004 x835005 bt838.1 bt838.2.1 bt838.2.2.1 bt838.2.2.2.1 bt838.2.2.2.2.1 bt838.2.2.2.2.2.1)) else ((ferryref06_Same.f k bt838.1 bt838.2.1 bt838.2.2.1 bt838.2.2.2.1 bt838.2.2.2.2.1 bt838.2.2.2.2.2.1 x835000 x835001 x835002 x835003 x835004 x835005).bind fun t853 => (if t853 = true then ((ferryref06_Fit.f k bt838.1 bt838.2.1 bt838.2.2.1 bt838.2.2.2.1 bt838.2.2.2.2.1 bt838.2.2.2.2.2.1).bind fun t854 => (ferrylaw06_GmapBack.j1 k x1 x2 x3 (!t854) x835000 x835001 x835002 x835003 x835004 x835005 bt838.1 bt838.2.1 bt838.2.2.1 bt838.2.2.2.1 bt838.2.2.2.2.1 bt838.2.2.2.2.2.1)) else (ferrylaw06_GmapBack.j1 k x1 x2 x3 true x835000 x835001 x835002 x835003 x835004 x835005 bt838.1 bt838.2.1 bt838.2.2.1 bt838.2.2.2.1 bt838.2.2.2.2.1 bt838.2.2.2.2.2.1)))) else (ferrylaw06_GmapBack.j1 k x1 x2 x3 true x835000 x835001 x835002 x835003 x835004 x835005 bt838.1 bt838.2.1 bt838.2.2.1 bt838.2.2.2.1 bt838.2.2.2.2.1 bt838.2.2.2.2.2.1)))
def ferrylaw06_GmapBack.j1 : Nat → Int → Int → Int → Bool → List (S83) → List (S88) → Int → List (S41) → Int → Int → List (S83) → List (S88) → Int → List (S41) → Int → Int → Option (Bool)
  | 0, _, _, _, _, _, _, _, _, _, _, _, _, _, _, _, _ => none
  | k + 1, x1, x2, x3, x52, x835000, x835001, x835002, x835003, x835004, x835005, x852000, x852001, x852002, x852003, x852004, x852005 => if x52 = true then (none) else ((gmap_Brk.f k x852000 x852001 x852002 x852003 x852004 x852005 x835005).bind fun bt855 => (if x1 ≥ x835005 then (if bt855.2.2.2.2.2.2 = x835005 then (ferrylaw06_GmapBack.j2 k x2 x3 ((bt855.2.2.2.1.length : Int) != (x835003.length : Int)) x835000 x835001 x835002 x835003 x835004 x835005) else (ferrylaw06_GmapBack.j2 k x2 x3 true x835000 x835001 x835002 x835003 x835004 x835005)) else (ferrylaw06_GmapBack.j2 k x2 x3 false x835000 x835001 x835002 x835003 x835004 x835005)))
def ferrylaw06_GmapBack.j2 : Nat → Int → Int → Bool → List (S83) → List (S88) → Int → List (S41) → Int → Int → Option (Bool)
  | 0, _, _, _, _, _, _, _, _, _ => none
  | k + 1, x2, x3, x80, x835000, x835001, x835002, x835003, x835004, x835005 => if x80 = true then (none) else ((gmap_Mmap.f k x835000 x835001 x835002 x835003 x835004 x835005 0 x2 x3 false).bind fun bt869 => (if bt869.2.2.2.2.2.2.2 = 0 then ((gmap_Munmap.f k bt869.1 bt869.2.1 bt869.2.2.1 bt869.2.2.2.1 bt869.2.2.2.2.1 bt869.2.2.2.2.2.1 bt869.2.2.2.2.2.2.1 x2).bind fun bt884 => (if bt884.2.2.2.2.2.2 = 0 then ((ferryref06_Same.f k bt884.1 bt884.2.1 bt884.2.2.1 bt884.2.2.2.1 bt884.2.2.2.2.1 bt884.2.2.2.2.2.1 x835000 x835001 x835002 x835003 x835004 x835005).bind fun t898 => (if t898 = true then ((ferrylaw06_awake.f k).bind fun t899 => (some t899)) else (none))) else (none))) else ((ferrylaw06_awake.f k).bind fun t900 => (some t900))))
end
def ferrylaw06_GmapBack.f (k : Nat) (l0_0 : List (S83)) (l0_1 : List (S88)) (a0_2 : Int) (l0_3 : List (S41)) (a0_4 : Int) (a0_5 : Int) (a1 : Int) (a2 : Int) (a3 : Int) : Option (Bool) := (ferrylaw06_few.f l0_0 l0_1 a0_2 l0_3 a0_4 a0_5).bind fun t835 => (if t835 = true then ((ferryref06_Fit.f k l0_0 l0_1 a0_2 l0_3 a0_4 a0_5).bind fun t836 => (ferrylaw06_GmapBack.j0 k a1 a2 a3 (!t836) l0_0 l0_1 a0_2 l0_3 a0_4 a0_5)) else (ferrylaw06_GmapBack.j0 k a1 a2 a3 true l0_0 l0_1 a0_2 l0_3 a0_4 a0_5))
set_option maxHeartbeats 8000000 in
set_option maxRecDepth 100000 in
theorem ferrylaw06_GmapBack.calls (k : Nat) (A0_0 : Option Addr) (c0_0 : Nat) (l0_0 : List (S83)) (A0_1 : Option Addr) (c0_1 : Nat) (l0_1 : List (S88)) (a0_2 : Int) (A0_3 : Option Addr) (c0_3 : Nat) (l0_3 : List (S41)) (a0_4 : Int) (a0_5 : Int) (a1 : Int) (a2 : Int) (a3 : Int) (r : Bool) (w : World) (hr0_0 : Kd.C k83 w A0_0 l0_0.length l0_0) (hc0_0 : l0_0.length ≤ c0_0) (hr0_1 : Kd.C k88 w A0_1 l0_1.length l0_1) (hc0_1 : l0_1.length ≤ c0_1) (hr0_3 : Kd.C k41 w A0_3 l0_3.length l0_3) (hc0_3 : l0_3.length ≤ c0_3) (h : ferrylaw06_GmapBack.f k l0_0 l0_1 a0_2 l0_3 a0_4 a0_5 a1 a2 a3 = some r) :
    Calls Try.prog 8 #[.agg #[.slice A0_0 l0_0.length c0_0, .slice A0_1 l0_1.length c0_1, .int .u64 a0_2, .slice A0_3 l0_3.length c0_3, .int .u32 a0_4, .int .u32 a0_5], .int .u32 a1, .int .u32 a2, .int .i64 a3] w fun e w' => e = .returned (.bool r) ∧ Below w.heap.size w w' := by
  have hu63 := Try.underlying63
  have HR0_0 := Aside0.mk hr0_0
  have HC0_0 := Aside0.mk hc0_0
  clear hr0_0 hc0_0
  have HR0_1 := Aside0.mk hr0_1
  have HC0_1 := Aside0.mk hc0_1
  clear hr0_1 hc0_1
  have HR0_3 := Aside0.mk hr0_3
  have HC0_3 := Aside0.mk hc0_3
  clear hr0_3 hc0_3
  have HB := Aside0.mk (Below.refl w.heap.size w)
  have H : ((ferrylaw06_few.f l0_0 l0_1 a0_2 l0_3 a0_4 a0_5).bind fun t835 => (if t835 = true then ((ferryref06_Fit.f k l0_0 l0_1 a0_2 l0_3 a0_4 a0_5).bind fun t836 => (ferrylaw06_GmapBack.j0 k a1 a2 a3 (!t836) l0_0 l0_1 a0_2 l0_3 a0_4 a0_5)) else (ferrylaw06_GmapBack.j0 k a1 a2 a3 true l0_0 l0_1 a0_2 l0_3 a0_4 a0_5))) = some r := h
  clear h
  have HC5 := Aside0.mk H
  clear H
  go_enter Try.func8, Try.ntmps8
  go_upto_region 1 with (first | ((with_reducible refine gate_dst (N := 4) rfl ?_); (try (refine gate_guard (by rfl) ?_; dsimp only)); refine bE_ 4 #[.slice A0_0 l0_0.length c0_0, .slice A0_1 l0_1.length c0_1, .int .u64 a0_2, .slice A0_3 l0_3.length c0_3, .int .u32 a0_4, .int .u32 a0_5] 63 ?_; intro gb834 hg w6 hbox hb; have BK834 := Aside0.mk hbox; have GW834 := geT_ w.heap.size hg; have GE834 := geT_ w.heap.size hg; replace HB := hB_ hb; clear hb hbox hg))
  (try simp only [Act.put, List.setIfInBounds_toArray, List.set_cons_zero, List.set_cons_succ])
  go_cut [25] (fun v25 wc => ∃ (kq : Nat) (x25_4 : Bool), v25 = .bool x25_4 ∧ Aside0 (ferrylaw06_GmapBack.j0 kq a1 a2 a3 x25_4 l0_0 l0_1 a0_2 l0_3 a0_4 a0_5 = some r) ∧ Aside0 (kq ≤ k) ∧ Aside0 (wc.heap[gb834]? = some (.cells #[(.slice A0_0 l0_0.length c0_0), (.slice A0_1 l0_1.length c0_1), .int .u64 a0_2, (.slice A0_3 l0_3.length c0_3), .int .u32 a0_4, .int .u32 a0_5] 63 (0, 0))) ∧ Aside0 (Below w.heap.size w wc))
  case first =>
    have H := HC5.out
    clear HC5
    replace H := Option.bind_eq_some_iff.mp H
    obtain ⟨t835, A70, H⟩ := H
    have A7 := Aside0.mk A70
    clear A70
    by_cases c8 : t835 = true
    · subst c8
      replace H := hP_ H
      replace H := Option.bind_eq_some_iff.mp H
      obtain ⟨t836, A90, H⟩ := H
      have A9 := Aside0.mk A90
      clear A90
      have H' := Aside0.mk H
      clear H
      obtain ⟨hcz10_0, hcz10_1, hcz10_2, hcz10_3, hcz10_4, hcz10_5, hfz10_0, hfz10_1, hfz10_2, hfz10_3, hfz10_4, hfz10_5⟩ := b6_ BK834.out
      go_wp2_with (first | ((with_reducible refine gate_callee (f := 31) rfl ?_); refine gL_ (some 19) Try.func31 #[.agg #[.slice A0_0 l0_0.length c0_0, .slice A0_1 l0_1.length c0_1, .int .u64 a0_2, .slice A0_3 l0_3.length c0_3, .int .u32 a0_4, .int .u32 a0_5]] ?_; (with_reducible refine (ferrylaw06_few.calls _ _ l0_0 _ _ l0_1 a0_2 _ _ l0_3 a0_4 a0_5 true _ ?side1 ?side2 ?side3 ?side4 ?side5 ?side6 A7.out).mono ?_); (case side1 => exact cT_ (Kd.C_below HR0_0.out HB.out)); (case side2 => exact HC0_0.out); (case side3 => exact cT_ (Kd.C_below HR0_1.out HB.out)); (case side4 => exact HC0_1.out); (case side5 => exact cT_ (Kd.C_below HR0_3.out HB.out)); (case side6 => exact HC0_3.out); rintro e w11 ⟨rfl, hb⟩; refine ⟨_, rfl, ?_⟩; replace BK834 := kB_ BK834 hb; replace HB := hB_ hb; (try clear hb); (try clear hb2); (try clear hk); (try clear hi); obtain ⟨hcz12_0, hcz12_1, hcz12_2, hcz12_3, hcz12_4, hcz12_5, hfz12_0, hfz12_1, hfz12_2, hfz12_3, hfz12_4, hfz12_5⟩ := b6_ BK834.out) | (go_at_call 32; (with_reducible refine (ferryref06_Fit.calls k _ _ l0_0 _ _ l0_1 a0_2 _ _ l0_3 a0_4 a0_5 t836 _ ?side1 ?side2 ?side3 ?side4 ?side5 ?side6 A9.out).mono ?_); (case side1 => exact cT_ (Kd.C_below HR0_0.out HB.out)); (case side2 => exact HC0_0.out); (case side3 => exact cT_ (Kd.C_below HR0_1.out HB.out)); (case side4 => exact HC0_1.out); (case side5 => exact cT_ (Kd.C_below HR0_3.out HB.out)); (case side6 => exact HC0_3.out); rintro e w13 ⟨rfl, hb⟩; replace BK834 := kB_ BK834 hb; replace HB := hB_ hb; (try clear hb); (try clear hb2); (try clear hk); (try clear hi)))
      go_meet
      case rel => exact ⟨_, (!t836), r1_, H', ⟨r2_⟩, ⟨bT_ BK834.out⟩, ⟨beT_⟩⟩
    replace c8 := Bool.eq_false_iff.mpr c8
    subst c8
    replace H := hN_ H
    have H' := Aside0.mk H
    clear H
    obtain ⟨hcz14_0, hcz14_1, hcz14_2, hcz14_3, hcz14_4, hcz14_5, hfz14_0, hfz14_1, hfz14_2, hfz14_3, hfz14_4, hfz14_5⟩ := b6_ BK834.out
    go_wp2_with (first | ((with_reducible refine gate_callee (f := 31) rfl ?_); refine gL_ (some 19) Try.func31 #[.agg #[.slice A0_0 l0_0.length c0_0, .slice A0_1 l0_1.length c0_1, .int .u64 a0_2, .slice A0_3 l0_3.length c0_3, .int .u32 a0_4, .int .u32 a0_5]] ?_; (with_reducible refine (ferrylaw06_few.calls _ _ l0_0 _ _ l0_1 a0_2 _ _ l0_3 a0_4 a0_5 false _ ?side1 ?side2 ?side3 ?side4 ?side5 ?side6 A7.out).mono ?_); (case side1 => exact cT_ (Kd.C_below HR0_0.out HB.out)); (case side2 => exact HC0_0.out); (case side3 => exact cT_ (Kd.C_below HR0_1.out HB.out)); (case side4 => exact HC0_1.out); (case side5 => exact cT_ (Kd.C_below HR0_3.out HB.out)); (case side6 => exact HC0_3.out); rintro e w15 ⟨rfl, hb⟩; refine ⟨_, rfl, ?_⟩; replace BK834 := kB_ BK834 hb; replace HB := hB_ hb; (try clear hb); (try clear hb2); (try clear hk); (try clear hi)))
    go_meet
    case rel => exact ⟨_, (true), r1_, H', ⟨r2_⟩, ⟨bT_ BK834.out⟩, ⟨beT_⟩⟩
  case rest =>
    clear HC5
    try clear p2
    try clear c3
    try clear c8
    try clear hcz10_0
    try clear hcz10_1
    try clear hcz10_2
    try clear hcz10_3
    try clear hcz10_4
    try clear hcz10_5
    try clear hcz12_0
    try clear hcz12_1
    try clear hcz12_2
    try clear hcz12_3
    try clear hcz12_4
    try clear hcz12_5
    try clear hcz14_0
    try clear hcz14_1
    try clear hcz14_2
    try clear hcz14_3
    try clear hcz14_4
    try clear hcz14_5
    try clear hfz10_0
    try clear hfz10_1
    try clear hfz10_2
    try clear hfz10_3
    try clear hfz10_4
    try clear hfz10_5
    try clear hfz12_0
    try clear hfz12_1
    try clear hfz12_2
    try clear hfz12_3
    try clear hfz12_4
    try clear hfz12_5
    try clear hfz14_0
    try clear hfz14_1
    try clear hfz14_2
    try clear hfz14_3
    try clear hfz14_4
    try clear hfz14_5
    obtain ⟨kq, x25_4, rfl, HA, HJ4, BK834, HB⟩ := hcut
    cases kq with
    | zero => exact absurd HA.out (by simp [ferrylaw06_GmapBack.j0])
    | succ kj4 =>
      have H := HA.out
      clear HA
      simp only [ferrylaw06_GmapBack.j0] at H
      by_cases c16 : x25_4 = true
      · subst c16
        replace H := hP_ H
        replace H := Option.bind_eq_some_iff.mp H
        obtain ⟨t837, A170, H⟩ := H
        have A17 := Aside0.mk A170
        clear A170
        obtain rfl := Option.some.inj H
        go_wp2_with (first | ((with_reducible refine gate_callee (f := 33) rfl ?_); refine gL_ (some 26) Try.func33 #[] ?_; (with_reducible refine (ferrylaw06_awake.calls kj4  t837 _ A17.out).mono ?_); rintro e w18 ⟨rfl, hb⟩; refine ⟨_, rfl, ?_⟩; replace BK834 := kB_ BK834 hb; replace HB := hB_ hb; (try clear hb); (try clear hb2); (try clear hk); (try clear hi)))
        go_ret
        exact ⟨r3_, beT_⟩
      replace c16 := Bool.eq_false_iff.mpr c16
      subst c16
      replace H := hN_ H
      replace H := Option.bind_eq_some_iff.mp H
      obtain ⟨⟨t838, t841, t844, t845, t848, t849, t850⟩, A190, H⟩ := H
      have A19 := Aside0.mk A190
      clear A190
      have HC20 := Aside0.mk H
      clear H
      obtain ⟨hcz21_0, hcz21_1, hcz21_2, hcz21_3, hcz21_4, hcz21_5, hfz21_0, hfz21_1, hfz21_2, hfz21_3, hfz21_4, hfz21_5⟩ := b6_ BK834.out
      go_upto_region 4 with (first | ((with_reducible refine gate_callee (f := 34) rfl ?_); refine gL_ (some 30) Try.func34 #[.agg #[.slice A0_0 l0_0.length c0_0, .slice A0_1 l0_1.length c0_1, .int .u64 a0_2, .slice A0_3 l0_3.length c0_3, .int .u32 a0_4, .int .u32 a0_5], .int .u32 a1] ?_; (with_reducible refine (gmap_Brk.calls kj4 (fun k_ => k_ < w.heap.size) _ _ l0_0 (fun k_ => k_ < w.heap.size) _ _ l0_1 a0_2 (fun k_ => k_ < w.heap.size) _ _ l0_3 a0_4 a0_5 a1 t838 t841 t844 t845 t848 t849 t850 _ ?side1 ?side2 ?side3 A19.out).mono ?_); (case side1 => exact Kd.V_mk HC0_0.out (Kd.F_below (Kd.C_F k83_heap HR0_0.out) beT_)); (case side2 => exact Kd.V_mk HC0_1.out (Kd.F_below (Kd.C_F k88_heap HR0_1.out) beT_)); (case side3 => exact Kd.V_mk HC0_3.out (Kd.F_below (Kd.C_F k41_heap HR0_3.out) beT_)); rintro e w22 ⟨v839, v842, v846, rfl, ho0, ho1, ho2, hb⟩; refine ⟨_, rfl, ?_⟩; have HO840 := Aside0.mk (Kd.V_lower (Kd.V_mono (ok' := fun k_ => k_ ≠ gb834) ho0 (fun k_ hk_ => Or.elim hk_ (fun hs_ => Or.elim hs_ (fun hs_ => fun e_ => Nat.not_le.2 hs_ (by rw [e_]; exact GW834.out)) (fun hs_ => Or.elim hs_ (fun hs_ => fun e_ => Nat.not_le.2 hs_ (by rw [e_]; exact GW834.out)) (fun hs_ => fun e_ => Nat.not_le.2 hs_ (by rw [e_]; exact GW834.out)))) (fun hn_ => (Kd.freshB (g := gb834) (o := .cells #[.slice A0_0 l0_0.length c0_0, .slice A0_1 l0_1.length c0_1, .int .u64 a0_2, .slice A0_3 l0_3.length c0_3, .int .u32 a0_4, .int .u32 a0_5] 63 (0, 0)) (bT_ BK834.out) k_ hn_)))) (below_size beT_)); have HO843 := Aside0.mk (Kd.V_lower (Kd.V_mono (ok' := fun k_ => k_ ≠ gb834) ho1 (fun k_ hk_ => Or.elim hk_ (fun hs_ => Or.elim hs_ (fun hs_ => fun e_ => Nat.not_le.2 hs_ (by rw [e_]; exact GW834.out)) (fun hs_ => Or.elim hs_ (fun hs_ => fun e_ => Nat.not_le.2 hs_ (by rw [e_]; exact GW834.out)) (fun hs_ => fun e_ => Nat.not_le.2 hs_ (by rw [e_]; exact GW834.out)))) (fun hn_ => (Kd.freshB (g := gb834) (o := .cells #[.slice A0_0 l0_0.length c0_0, .slice A0_1 l0_1.length c0_1, .int .u64 a0_2, .slice A0_3 l0_3.length c0_3, .int .u32 a0_4, .int .u32 a0_5] 63 (0, 0)) (bT_ BK834.out) k_ hn_)))) (below_size beT_)); have HO847 := Aside0.mk (Kd.V_lower (Kd.V_mono (ok' := fun k_ => k_ ≠ gb834) ho2 (fun k_ hk_ => Or.elim hk_ (fun hs_ => Or.elim hs_ (fun hs_ => fun e_ => Nat.not_le.2 hs_ (by rw [e_]; exact GW834.out)) (fun hs_ => Or.elim hs_ (fun hs_ => fun e_ => Nat.not_le.2 hs_ (by rw [e_]; exact GW834.out)) (fun hs_ => fun e_ => Nat.not_le.2 hs_ (by rw [e_]; exact GW834.out)))) (fun hn_ => (Kd.freshB (g := gb834) (o := .cells #[.slice A0_0 l0_0.length c0_0, .slice A0_1 l0_1.length c0_1, .int .u64 a0_2, .slice A0_3 l0_3.length c0_3, .int .u32 a0_4, .int .u32 a0_5] 63 (0, 0)) (bT_ BK834.out) k_ hn_)))) (below_size beT_)); replace BK834 := kB_ BK834 hb; replace HB := hB_ hb; (try clear hb); (try clear hb2); (try clear hk); (try clear hi); (try clear ho0); (try clear ho1); (try clear ho2)) | ((with_reducible refine gate_dst (N := 9) rfl ?_); (try (refine gate_guard (by rfl) ?_; dsimp only)); refine bE_ 9 #[.slice none 0 0, .slice none 0 0, .int .u64 0, .slice none 0 0, .int .u32 0, .int .u32 0] 63 ?_; intro gb851 hg w23 hbox hb; have BK851 := Aside0.mk hbox; have GW851 := geT_ w.heap.size hg; have GE851 := geT_ w.heap.size hg; have NB834_851 := nlT_ BK834.out hg; have NB851_834 := ngT_ BK834.out hg; replace HO840 := vE_ HO840.out hg hb; replace HO843 := vE_ HO843.out hg hb; replace HO847 := vE_ HO847.out hg hb; replace BK834 := kB_ BK834 hb; replace HB := hB_ hb; clear hb hbox hg; obtain ⟨Ao24, co24, eo24⟩ := Kd.V_slice HO840.out; subst eo24; have hnb25 := NB851_834.out; have hnc25 := NB834_851.out; obtain ⟨hcz26_0, hcz26_1, hcz26_2, hcz26_3, hcz26_4, hcz26_5, hfz26_0, hfz26_1, hfz26_2, hfz26_3, hfz26_4, hfz26_5⟩ := b6_ BK851.out; obtain ⟨Ao27, co27, eo27⟩ := Kd.V_slice HO843.out; subst eo27; obtain ⟨Ao28, co28, eo28⟩ := Kd.V_slice HO847.out; subst eo28))
      (try simp only [Act.put, List.setIfInBounds_toArray, List.set_cons_zero, List.set_cons_succ])
      go_cut [52] (fun v52 wc => ∃ (kq : Nat) (x52_19 : Bool), v52 = .bool x52_19 ∧ Aside0 (ferrylaw06_GmapBack.j1 kq a1 a2 a3 x52_19 l0_0 l0_1 a0_2 l0_3 a0_4 a0_5 t838 t841 t844 t845 t848 t849 = some r) ∧ Aside0 (kq ≤ kj4) ∧ Aside0 (Kd.V k83 83 wc w.heap.size (fun k_ => k_ ≠ gb834 ∧ k_ ≠ gb851) (.slice Ao24 t838.length co24) t838) ∧ Aside0 (Kd.V k88 88 wc w.heap.size (fun k_ => k_ ≠ gb834 ∧ k_ ≠ gb851) (.slice Ao27 t841.length co27) t841) ∧ Aside0 (Kd.V k41 41 wc w.heap.size (fun k_ => k_ ≠ gb834 ∧ k_ ≠ gb851) (.slice Ao28 t845.length co28) t845) ∧ Aside0 (wc.heap[gb834]? = some (.cells #[(.slice A0_0 l0_0.length c0_0), (.slice A0_1 l0_1.length c0_1), .int .u64 a0_2, (.slice A0_3 l0_3.length c0_3), .int .u32 a0_4, .int .u32 a0_5] 63 (0, 0))) ∧ Aside0 (wc.heap[gb851]? = some (.cells #[(.slice Ao24 t838.length co24), (.slice Ao27 t841.length co27), .int .u64 t844, (.slice Ao28 t845.length co28), .int .u32 t848, .int .u32 t849] 63 (0, 0))) ∧ Aside0 (Below w.heap.size w wc))
      case first =>
        have H := HC20.out
        clear HC20
        by_cases c29 : t850 = t849
        · rw [if_pos c29] at H
          have c29b0 : (t850 == t849) = true := beq_iff_eq.mpr c29
          have c29b1 : (t850 != t849) = false := bne_eq_false_iff_eq.mpr c29
          clear c29
          (first | rw [c29b0] | (simp only [i64_w, i32_w]; rw [c29b0]) | skip)
          by_cases c30 : t850 = a1
          · rw [if_pos c30] at H
            have c30b0 : (t850 == a1) = true := beq_iff_eq.mpr c30
            have c30b1 : (t850 != a1) = false := bne_eq_false_iff_eq.mpr c30
            clear c30
            replace H := Option.bind_eq_some_iff.mp H
            obtain ⟨t852, A310, H⟩ := H
            have A31 := Aside0.mk A310
            clear A310
            have H' := Aside0.mk H
            clear H
            have hnb32 := NB851_834.out
            have hnc32 := NB834_851.out
            obtain ⟨hcz33_0, hcz33_1, hcz33_2, hcz33_3, hcz33_4, hcz33_5, hfz33_0, hfz33_1, hfz33_2, hfz33_3, hfz33_4, hfz33_5⟩ := b6_ BK851.out
            go_wp2_with (first | (go_at_call 32; (with_reducible refine (ferryref06_Fit.calls kj4 _ _ t838 _ _ t841 t844 _ _ t845 t848 t849 t852 _ ?side1 ?side2 ?side3 ?side4 ?side5 ?side6 A31.out).mono ?_); (case side1 => refine (Kd.V_reads' (e := 83) (base := w.heap.size) (ok := fun _ => True) (n := t838.length) (c := co24) ?_).2.2; exact (by (with_reducible repeat (first | apply Kd.V_alloc | apply Kd.V_drewN | apply Kd.V_drew)); exact (Kd.V_mono (Kd.V_far (p := ⟨gb851, 5, none⟩) (Kd.V_far (p := ⟨gb851, 4, none⟩) (Kd.V_far (p := ⟨gb851, 3, none⟩) (Kd.V_far (p := ⟨gb851, 2, none⟩) (Kd.V_far (p := ⟨gb851, 1, none⟩) (Kd.V_far (p := ⟨gb851, 0, none⟩) (Kd.V_mono HO840.out (fun k_ hk => (⟨hk, by first | exact hk.2 | exact hk.2.1 | exact hk.2.2 | omega | grind⟩ : _ ∧ k_ ≠ gb851))) (fun _ hk => by first | exact hk.2 | grind) (.slice Ao24 t838.length co24)) (fun _ hk => by first | exact hk.2 | grind) (.slice Ao27 t841.length co27)) (fun _ hk => by first | exact hk.2 | grind) (.int .u64 t844)) (fun _ hk => by first | exact hk.2 | grind) (.slice Ao28 t845.length co28)) (fun _ hk => by first | exact hk.2 | grind) (.int .u32 t848)) (fun _ hk => by first | exact hk.2 | grind) (.int .u32 t849)) (fun _ _ => trivial)))); (case side2 => exact (Kd.V_reads' HO840.out).2.1); (case side3 => refine (Kd.V_reads' (e := 88) (base := w.heap.size) (ok := fun _ => True) (n := t841.length) (c := co27) ?_).2.2; exact (by (with_reducible repeat (first | apply Kd.V_alloc | apply Kd.V_drewN | apply Kd.V_drew)); exact (Kd.V_mono (Kd.V_far (p := ⟨gb851, 5, none⟩) (Kd.V_far (p := ⟨gb851, 4, none⟩) (Kd.V_far (p := ⟨gb851, 3, none⟩) (Kd.V_far (p := ⟨gb851, 2, none⟩) (Kd.V_far (p := ⟨gb851, 1, none⟩) (Kd.V_far (p := ⟨gb851, 0, none⟩) (Kd.V_mono HO843.out (fun k_ hk => (⟨hk, by first | exact hk.2 | exact hk.2.1 | exact hk.2.2 | omega | grind⟩ : _ ∧ k_ ≠ gb851))) (fun _ hk => by first | exact hk.2 | grind) (.slice Ao24 t838.length co24)) (fun _ hk => by first | exact hk.2 | grind) (.slice Ao27 t841.length co27)) (fun _ hk => by first | exact hk.2 | grind) (.int .u64 t844)) (fun _ hk => by first | exact hk.2 | grind) (.slice Ao28 t845.length co28)) (fun _ hk => by first | exact hk.2 | grind) (.int .u32 t848)) (fun _ hk => by first | exact hk.2 | grind) (.int .u32 t849)) (fun _ _ => trivial)))); (case side4 => exact (Kd.V_reads' HO843.out).2.1); (case side5 => refine (Kd.V_reads' (e := 41) (base := w.heap.size) (ok := fun _ => True) (n := t845.length) (c := co28) ?_).2.2; exact (by (with_reducible repeat (first | apply Kd.V_alloc | apply Kd.V_drewN | apply Kd.V_drew)); exact (Kd.V_mono (Kd.V_far (p := ⟨gb851, 5, none⟩) (Kd.V_far (p := ⟨gb851, 4, none⟩) (Kd.V_far (p := ⟨gb851, 3, none⟩) (Kd.V_far (p := ⟨gb851, 2, none⟩) (Kd.V_far (p := ⟨gb851, 1, none⟩) (Kd.V_far (p := ⟨gb851, 0, none⟩) (Kd.V_mono HO847.out (fun k_ hk => (⟨hk, by first | exact hk.2 | exact hk.2.1 | exact hk.2.2 | omega | grind⟩ : _ ∧ k_ ≠ gb851))) (fun _ hk => by first | exact hk.2 | grind) (.slice Ao24 t838.length co24)) (fun _ hk => by first | exact hk.2 | grind) (.slice Ao27 t841.length co27)) (fun _ hk => by first | exact hk.2 | grind) (.int .u64 t844)) (fun _ hk => by first | exact hk.2 | grind) (.slice Ao28 t845.length co28)) (fun _ hk => by first | exact hk.2 | grind) (.int .u32 t848)) (fun _ hk => by first | exact hk.2 | grind) (.int .u32 t849)) (fun _ _ => trivial)))); (case side6 => exact (Kd.V_reads' HO847.out).2.1); rintro e w34 ⟨rfl, hb⟩; replace HO840 := Aside0.mk (Kd.V_below (by (with_reducible repeat (first | apply Kd.V_alloc | apply Kd.V_drewN | apply Kd.V_drew)); exact (Kd.V_mono (Kd.V_far (p := ⟨gb851, 5, none⟩) (Kd.V_far (p := ⟨gb851, 4, none⟩) (Kd.V_far (p := ⟨gb851, 3, none⟩) (Kd.V_far (p := ⟨gb851, 2, none⟩) (Kd.V_far (p := ⟨gb851, 1, none⟩) (Kd.V_far (p := ⟨gb851, 0, none⟩) (Kd.V_mono HO840.out (fun k_ hk => (⟨hk, by first | exact hk.2 | exact hk.2.1 | exact hk.2.2 | omega | grind⟩ : _ ∧ k_ ≠ gb851))) (fun _ hk => by first | exact hk.2 | grind) (.slice Ao24 t838.length co24)) (fun _ hk => by first | exact hk.2 | grind) (.slice Ao27 t841.length co27)) (fun _ hk => by first | exact hk.2 | grind) (.int .u64 t844)) (fun _ hk => by first | exact hk.2 | grind) (.slice Ao28 t845.length co28)) (fun _ hk => by first | exact hk.2 | grind) (.int .u32 t848)) (fun _ hk => by first | exact hk.2 | grind) (.int .u32 t849)) (fun _ h_ => h_.1))) hb); replace HO843 := Aside0.mk (Kd.V_below (by (with_reducible repeat (first | apply Kd.V_alloc | apply Kd.V_drewN | apply Kd.V_drew)); exact (Kd.V_mono (Kd.V_far (p := ⟨gb851, 5, none⟩) (Kd.V_far (p := ⟨gb851, 4, none⟩) (Kd.V_far (p := ⟨gb851, 3, none⟩) (Kd.V_far (p := ⟨gb851, 2, none⟩) (Kd.V_far (p := ⟨gb851, 1, none⟩) (Kd.V_far (p := ⟨gb851, 0, none⟩) (Kd.V_mono HO843.out (fun k_ hk => (⟨hk, by first | exact hk.2 | exact hk.2.1 | exact hk.2.2 | omega | grind⟩ : _ ∧ k_ ≠ gb851))) (fun _ hk => by first | exact hk.2 | grind) (.slice Ao24 t838.length co24)) (fun _ hk => by first | exact hk.2 | grind) (.slice Ao27 t841.length co27)) (fun _ hk => by first | exact hk.2 | grind) (.int .u64 t844)) (fun _ hk => by first | exact hk.2 | grind) (.slice Ao28 t845.length co28)) (fun _ hk => by first | exact hk.2 | grind) (.int .u32 t848)) (fun _ hk => by first | exact hk.2 | grind) (.int .u32 t849)) (fun _ h_ => h_.1))) hb); replace HO847 := Aside0.mk (Kd.V_below (by (with_reducible repeat (first | apply Kd.V_alloc | apply Kd.V_drewN | apply Kd.V_drew)); exact (Kd.V_mono (Kd.V_far (p := ⟨gb851, 5, none⟩) (Kd.V_far (p := ⟨gb851, 4, none⟩) (Kd.V_far (p := ⟨gb851, 3, none⟩) (Kd.V_far (p := ⟨gb851, 2, none⟩) (Kd.V_far (p := ⟨gb851, 1, none⟩) (Kd.V_far (p := ⟨gb851, 0, none⟩) (Kd.V_mono HO847.out (fun k_ hk => (⟨hk, by first | exact hk.2 | exact hk.2.1 | exact hk.2.2 | omega | grind⟩ : _ ∧ k_ ≠ gb851))) (fun _ hk => by first | exact hk.2 | grind) (.slice Ao24 t838.length co24)) (fun _ hk => by first | exact hk.2 | grind) (.slice Ao27 t841.length co27)) (fun _ hk => by first | exact hk.2 | grind) (.int .u64 t844)) (fun _ hk => by first | exact hk.2 | grind) (.slice Ao28 t845.length co28)) (fun _ hk => by first | exact hk.2 | grind) (.int .u32 t848)) (fun _ hk => by first | exact hk.2 | grind) (.int .u32 t849)) (fun _ h_ => h_.1))) hb); replace BK834 := kB_ BK834 hb; replace BK851 := Aside0.mk (blk_below (g := gb851) (o := .cells #[.slice Ao24 t838.length co24, .slice Ao27 t841.length co27, .int .u64 t844, .slice Ao28 t845.length co28, .int .u32 t848, .int .u32 t849] 63 (0, 0)) (kP_ BK851.out) hb); replace HB := hB_ hb; (try clear hb); (try clear hb2); (try clear hk); (try clear hi)))
            go_meet
            case rel => exact ⟨_, (!t852), r1_, H', ⟨by have := HJ4.out; first | omega | exact Nat.le_refl _⟩, ⟨vT_ HO840.out⟩, ⟨vT_ HO843.out⟩, ⟨vT_ HO847.out⟩, ⟨bT_ BK834.out⟩, ⟨bT_ BK851.out⟩, ⟨beT_⟩⟩
          rw [if_neg c30] at H
          have c30b0 : (t850 == a1) = false := beq_eq_false_iff_ne.mpr c30
          have c30b1 : (t850 != a1) = true := bne_iff_ne.mpr c30
          replace H := Option.bind_eq_some_iff.mp H
          obtain ⟨t853, A350, H⟩ := H
          have A35 := Aside0.mk A350
          clear A350
          by_cases c36 : t853 = true
          · subst c36
            replace H := hP_ H
            replace H := Option.bind_eq_some_iff.mp H
            obtain ⟨t854, A370, H⟩ := H
            have A37 := Aside0.mk A370
            clear A370
            have H' := Aside0.mk H
            clear H
            have hnb38 := NB851_834.out
            have hnc38 := NB834_851.out
            obtain ⟨hcz39_0, hcz39_1, hcz39_2, hcz39_3, hcz39_4, hcz39_5, hfz39_0, hfz39_1, hfz39_2, hfz39_3, hfz39_4, hfz39_5⟩ := b6_ BK851.out
            obtain ⟨hcz40_0, hcz40_1, hcz40_2, hcz40_3, hcz40_4, hcz40_5, hfz40_0, hfz40_1, hfz40_2, hfz40_3, hfz40_4, hfz40_5⟩ := b6_ BK834.out
            go_wp2_with (first | (go_at_call 35; (with_reducible refine (ferryref06_Same.calls kj4 _ _ t838 _ _ t841 t844 _ _ t845 t848 t849 _ _ l0_0 _ _ l0_1 a0_2 _ _ l0_3 a0_4 a0_5 true _ ?side1 ?side2 ?side3 ?side4 ?side5 ?side6 ?side7 ?side8 ?side9 ?side10 ?side11 ?side12 A35.out).mono ?_); (case side1 => refine (Kd.V_reads' (e := 83) (base := w.heap.size) (ok := fun _ => True) (n := t838.length) (c := co24) ?_).2.2; exact (by (with_reducible repeat (first | apply Kd.V_alloc | apply Kd.V_drewN | apply Kd.V_drew)); exact (Kd.V_mono (Kd.V_far (p := ⟨gb851, 5, none⟩) (Kd.V_far (p := ⟨gb851, 4, none⟩) (Kd.V_far (p := ⟨gb851, 3, none⟩) (Kd.V_far (p := ⟨gb851, 2, none⟩) (Kd.V_far (p := ⟨gb851, 1, none⟩) (Kd.V_far (p := ⟨gb851, 0, none⟩) (Kd.V_mono HO840.out (fun k_ hk => (⟨hk, by first | exact hk.2 | exact hk.2.1 | exact hk.2.2 | omega | grind⟩ : _ ∧ k_ ≠ gb851))) (fun _ hk => by first | exact hk.2 | grind) (.slice Ao24 t838.length co24)) (fun _ hk => by first | exact hk.2 | grind) (.slice Ao27 t841.length co27)) (fun _ hk => by first | exact hk.2 | grind) (.int .u64 t844)) (fun _ hk => by first | exact hk.2 | grind) (.slice Ao28 t845.length co28)) (fun _ hk => by first | exact hk.2 | grind) (.int .u32 t848)) (fun _ hk => by first | exact hk.2 | grind) (.int .u32 t849)) (fun _ _ => trivial)))); (case side2 => exact (Kd.V_reads' HO840.out).2.1); (case side3 => refine (Kd.V_reads' (e := 88) (base := w.heap.size) (ok := fun _ => True) (n := t841.length) (c := co27) ?_).2.2; exact (by (with_reducible repeat (first | apply Kd.V_alloc | apply Kd.V_drewN | apply Kd.V_drew)); exact (Kd.V_mono (Kd.V_far (p := ⟨gb851, 5, none⟩) (Kd.V_far (p := ⟨gb851, 4, none⟩) (Kd.V_far (p := ⟨gb851, 3, none⟩) (Kd.V_far (p := ⟨gb851, 2, none⟩) (Kd.V_far (p := ⟨gb851, 1, none⟩) (Kd.V_far (p := ⟨gb851, 0, none⟩) (Kd.V_mono HO843.out (fun k_ hk => (⟨hk, by first | exact hk.2 | exact hk.2.1 | exact hk.2.2 | omega | grind⟩ : _ ∧ k_ ≠ gb851))) (fun _ hk => by first | exact hk.2 | grind) (.slice Ao24 t838.length co24)) (fun _ hk => by first | exact hk.2 | grind) (.slice Ao27 t841.length co27)) (fun _ hk => by first | exact hk.2 | grind) (.int .u64 t844)) (fun _ hk => by first | exact hk.2 | grind) (.slice Ao28 t845.length co28)) (fun _ hk => by first | exact hk.2 | grind) (.int .u32 t848)) (fun _ hk => by first | exact hk.2 | grind) (.int .u32 t849)) (fun _ _ => trivial)))); (case side4 => exact (Kd.V_reads' HO843.out).2.1); (case side5 => refine (Kd.V_reads' (e := 41) (base := w.heap.size) (ok := fun _ => True) (n := t845.length) (c := co28) ?_).2.2; exact (by (with_reducible repeat (first | apply Kd.V_alloc | apply Kd.V_drewN | apply Kd.V_drew)); exact (Kd.V_mono (Kd.V_far (p := ⟨gb851, 5, none⟩) (Kd.V_far (p := ⟨gb851, 4, none⟩) (Kd.V_far (p := ⟨gb851, 3, none⟩) (Kd.V_far (p := ⟨gb851, 2, none⟩) (Kd.V_far (p := ⟨gb851, 1, none⟩) (Kd.V_far (p := ⟨gb851, 0, none⟩) (Kd.V_mono HO847.out (fun k_ hk => (⟨hk, by first | exact hk.2 | exact hk.2.1 | exact hk.2.2 | omega | grind⟩ : _ ∧ k_ ≠ gb851))) (fun _ hk => by first | exact hk.2 | grind) (.slice Ao24 t838.length co24)) (fun _ hk => by first | exact hk.2 | grind) (.slice Ao27 t841.length co27)) (fun _ hk => by first | exact hk.2 | grind) (.int .u64 t844)) (fun _ hk => by first | exact hk.2 | grind) (.slice Ao28 t845.length co28)) (fun _ hk => by first | exact hk.2 | grind) (.int .u32 t848)) (fun _ hk => by first | exact hk.2 | grind) (.int .u32 t849)) (fun _ _ => trivial)))); (case side6 => exact (Kd.V_reads' HO847.out).2.1); (case side7 => exact Kd.C_below HR0_0.out beT_); (case side8 => exact HC0_0.out); (case side9 => exact Kd.C_below HR0_1.out beT_); (case side10 => exact HC0_1.out); (case side11 => exact Kd.C_below HR0_3.out beT_); (case side12 => exact HC0_3.out); rintro e w41 ⟨rfl, hb⟩; replace HO840 := Aside0.mk (Kd.V_below (by (with_reducible repeat (first | apply Kd.V_alloc | apply Kd.V_drewN | apply Kd.V_drew)); exact (Kd.V_mono (Kd.V_far (p := ⟨gb851, 5, none⟩) (Kd.V_far (p := ⟨gb851, 4, none⟩) (Kd.V_far (p := ⟨gb851, 3, none⟩) (Kd.V_far (p := ⟨gb851, 2, none⟩) (Kd.V_far (p := ⟨gb851, 1, none⟩) (Kd.V_far (p := ⟨gb851, 0, none⟩) (Kd.V_mono HO840.out (fun k_ hk => (⟨hk, by first | exact hk.2 | exact hk.2.1 | exact hk.2.2 | omega | grind⟩ : _ ∧ k_ ≠ gb851))) (fun _ hk => by first | exact hk.2 | grind) (.slice Ao24 t838.length co24)) (fun _ hk => by first | exact hk.2 | grind) (.slice Ao27 t841.length co27)) (fun _ hk => by first | exact hk.2 | grind) (.int .u64 t844)) (fun _ hk => by first | exact hk.2 | grind) (.slice Ao28 t845.length co28)) (fun _ hk => by first | exact hk.2 | grind) (.int .u32 t848)) (fun _ hk => by first | exact hk.2 | grind) (.int .u32 t849)) (fun _ h_ => h_.1))) hb); replace HO843 := Aside0.mk (Kd.V_below (by (with_reducible repeat (first | apply Kd.V_alloc | apply Kd.V_drewN | apply Kd.V_drew)); exact (Kd.V_mono (Kd.V_far (p := ⟨gb851, 5, none⟩) (Kd.V_far (p := ⟨gb851, 4, none⟩) (Kd.V_far (p := ⟨gb851, 3, none⟩) (Kd.V_far (p := ⟨gb851, 2, none⟩) (Kd.V_far (p := ⟨gb851, 1, none⟩) (Kd.V_far (p := ⟨gb851, 0, none⟩) (Kd.V_mono HO843.out (fun k_ hk => (⟨hk, by first | exact hk.2 | exact hk.2.1 | exact hk.2.2 | omega | grind⟩ : _ ∧ k_ ≠ gb851))) (fun _ hk => by first | exact hk.2 | grind) (.slice Ao24 t838.length co24)) (fun _ hk => by first | exact hk.2 | grind) (.slice Ao27 t841.length co27)) (fun _ hk => by first | exact hk.2 | grind) (.int .u64 t844)) (fun _ hk => by first | exact hk.2 | grind) (.slice Ao28 t845.length co28)) (fun _ hk => by first | exact hk.2 | grind) (.int .u32 t848)) (fun _ hk => by first | exact hk.2 | grind) (.int .u32 t849)) (fun _ h_ => h_.1))) hb); replace HO847 := Aside0.mk (Kd.V_below (by (with_reducible repeat (first | apply Kd.V_alloc | apply Kd.V_drewN | apply Kd.V_drew)); exact (Kd.V_mono (Kd.V_far (p := ⟨gb851, 5, none⟩) (Kd.V_far (p := ⟨gb851, 4, none⟩) (Kd.V_far (p := ⟨gb851, 3, none⟩) (Kd.V_far (p := ⟨gb851, 2, none⟩) (Kd.V_far (p := ⟨gb851, 1, none⟩) (Kd.V_far (p := ⟨gb851, 0, none⟩) (Kd.V_mono HO847.out (fun k_ hk => (⟨hk, by first | exact hk.2 | exact hk.2.1 | exact hk.2.2 | omega | grind⟩ : _ ∧ k_ ≠ gb851))) (fun _ hk => by first | exact hk.2 | grind) (.slice Ao24 t838.length co24)) (fun _ hk => by first | exact hk.2 | grind) (.slice Ao27 t841.length co27)) (fun _ hk => by first | exact hk.2 | grind) (.int .u64 t844)) (fun _ hk => by first | exact hk.2 | grind) (.slice Ao28 t845.length co28)) (fun _ hk => by first | exact hk.2 | grind) (.int .u32 t848)) (fun _ hk => by first | exact hk.2 | grind) (.int .u32 t849)) (fun _ h_ => h_.1))) hb); replace BK834 := kB_ BK834 hb; replace BK851 := Aside0.mk (blk_below (g := gb851) (o := .cells #[.slice Ao24 t838.length co24, .slice Ao27 t841.length co27, .int .u64 t844, .slice Ao28 t845.length co28, .int .u32 t848, .int .u32 t849] 63 (0, 0)) (kP_ BK851.out) hb); replace HB := hB_ hb; (try clear hb); (try clear hb2); (try clear hk); (try clear hi); obtain ⟨hcz42_0, hcz42_1, hcz42_2, hcz42_3, hcz42_4, hcz42_5, hfz42_0, hfz42_1, hfz42_2, hfz42_3, hfz42_4, hfz42_5⟩ := b6_ BK851.out) | (go_at_call 32; (with_reducible refine (ferryref06_Fit.calls kj4 _ _ t838 _ _ t841 t844 _ _ t845 t848 t849 t854 _ ?side1 ?side2 ?side3 ?side4 ?side5 ?side6 A37.out).mono ?_); (case side1 => exact cT_ (Kd.V_reads' HO840.out).2.2); (case side2 => exact (Kd.V_reads' HO840.out).2.1); (case side3 => exact cT_ (Kd.V_reads' HO843.out).2.2); (case side4 => exact (Kd.V_reads' HO843.out).2.1); (case side5 => exact cT_ (Kd.V_reads' HO847.out).2.2); (case side6 => exact (Kd.V_reads' HO847.out).2.1); rintro e w43 ⟨rfl, hb⟩; replace HO840 := vB_ HO840.out hb; replace HO843 := vB_ HO843.out hb; replace HO847 := vB_ HO847.out hb; replace BK834 := kB_ BK834 hb; replace BK851 := kB_ BK851 hb; replace HB := hB_ hb; (try clear hb); (try clear hb2); (try clear hk); (try clear hi)))
            go_meet
            case rel => exact ⟨_, (!t854), r1_, H', ⟨by have := HJ4.out; first | omega | exact Nat.le_refl _⟩, ⟨vT_ HO840.out⟩, ⟨vT_ HO843.out⟩, ⟨vT_ HO847.out⟩, ⟨bT_ BK834.out⟩, ⟨bT_ BK851.out⟩, ⟨beT_⟩⟩
          replace c36 := Bool.eq_false_iff.mpr c36
          subst c36
          replace H := hN_ H
          have H' := Aside0.mk H
          clear H
          have hnb44 := NB851_834.out
          have hnc44 := NB834_851.out
          obtain ⟨hcz45_0, hcz45_1, hcz45_2, hcz45_3, hcz45_4, hcz45_5, hfz45_0, hfz45_1, hfz45_2, hfz45_3, hfz45_4, hfz45_5⟩ := b6_ BK851.out
          obtain ⟨hcz46_0, hcz46_1, hcz46_2, hcz46_3, hcz46_4, hcz46_5, hfz46_0, hfz46_1, hfz46_2, hfz46_3, hfz46_4, hfz46_5⟩ := b6_ BK834.out
          go_wp2_with (first | (go_at_call 35; (with_reducible refine (ferryref06_Same.calls kj4 _ _ t838 _ _ t841 t844 _ _ t845 t848 t849 _ _ l0_0 _ _ l0_1 a0_2 _ _ l0_3 a0_4 a0_5 false _ ?side1 ?side2 ?side3 ?side4 ?side5 ?side6 ?side7 ?side8 ?side9 ?side10 ?side11 ?side12 A35.out).mono ?_); (case side1 => refine (Kd.V_reads' (e := 83) (base := w.heap.size) (ok := fun _ => True) (n := t838.length) (c := co24) ?_).2.2; exact (by (with_reducible repeat (first | apply Kd.V_alloc | apply Kd.V_drewN | apply Kd.V_drew)); exact (Kd.V_mono (Kd.V_far (p := ⟨gb851, 5, none⟩) (Kd.V_far (p := ⟨gb851, 4, none⟩) (Kd.V_far (p := ⟨gb851, 3, none⟩) (Kd.V_far (p := ⟨gb851, 2, none⟩) (Kd.V_far (p := ⟨gb851, 1, none⟩) (Kd.V_far (p := ⟨gb851, 0, none⟩) (Kd.V_mono HO840.out (fun k_ hk => (⟨hk, by first | exact hk.2 | exact hk.2.1 | exact hk.2.2 | omega | grind⟩ : _ ∧ k_ ≠ gb851))) (fun _ hk => by first | exact hk.2 | grind) (.slice Ao24 t838.length co24)) (fun _ hk => by first | exact hk.2 | grind) (.slice Ao27 t841.length co27)) (fun _ hk => by first | exact hk.2 | grind) (.int .u64 t844)) (fun _ hk => by first | exact hk.2 | grind) (.slice Ao28 t845.length co28)) (fun _ hk => by first | exact hk.2 | grind) (.int .u32 t848)) (fun _ hk => by first | exact hk.2 | grind) (.int .u32 t849)) (fun _ _ => trivial)))); (case side2 => exact (Kd.V_reads' HO840.out).2.1); (case side3 => refine (Kd.V_reads' (e := 88) (base := w.heap.size) (ok := fun _ => True) (n := t841.length) (c := co27) ?_).2.2; exact (by (with_reducible repeat (first | apply Kd.V_alloc | apply Kd.V_drewN | apply Kd.V_drew)); exact (Kd.V_mono (Kd.V_far (p := ⟨gb851, 5, none⟩) (Kd.V_far (p := ⟨gb851, 4, none⟩) (Kd.V_far (p := ⟨gb851, 3, none⟩) (Kd.V_far (p := ⟨gb851, 2, none⟩) (Kd.V_far (p := ⟨gb851, 1, none⟩) (Kd.V_far (p := ⟨gb851, 0, none⟩) (Kd.V_mono HO843.out (fun k_ hk => (⟨hk, by first | exact hk.2 | exact hk.2.1 | exact hk.2.2 | omega | grind⟩ : _ ∧ k_ ≠ gb851))) (fun _ hk => by first | exact hk.2 | grind) (.slice Ao24 t838.length co24)) (fun _ hk => by first | exact hk.2 | grind) (.slice Ao27 t841.length co27)) (fun _ hk => by first | exact hk.2 | grind) (.int .u64 t844)) (fun _ hk => by first | exact hk.2 | grind) (.slice Ao28 t845.length co28)) (fun _ hk => by first | exact hk.2 | grind) (.int .u32 t848)) (fun _ hk => by first | exact hk.2 | grind) (.int .u32 t849)) (fun _ _ => trivial)))); (case side4 => exact (Kd.V_reads' HO843.out).2.1); (case side5 => refine (Kd.V_reads' (e := 41) (base := w.heap.size) (ok := fun _ => True) (n := t845.length) (c := co28) ?_).2.2; exact (by (with_reducible repeat (first | apply Kd.V_alloc | apply Kd.V_drewN | apply Kd.V_drew)); exact (Kd.V_mono (Kd.V_far (p := ⟨gb851, 5, none⟩) (Kd.V_far (p := ⟨gb851, 4, none⟩) (Kd.V_far (p := ⟨gb851, 3, none⟩) (Kd.V_far (p := ⟨gb851, 2, none⟩) (Kd.V_far (p := ⟨gb851, 1, none⟩) (Kd.V_far (p := ⟨gb851, 0, none⟩) (Kd.V_mono HO847.out (fun k_ hk => (⟨hk, by first | exact hk.2 | exact hk.2.1 | exact hk.2.2 | omega | grind⟩ : _ ∧ k_ ≠ gb851))) (fun _ hk => by first | exact hk.2 | grind) (.slice Ao24 t838.length co24)) (fun _ hk => by first | exact hk.2 | grind) (.slice Ao27 t841.length co27)) (fun _ hk => by first | exact hk.2 | grind) (.int .u64 t844)) (fun _ hk => by first | exact hk.2 | grind) (.slice Ao28 t845.length co28)) (fun _ hk => by first | exact hk.2 | grind) (.int .u32 t848)) (fun _ hk => by first | exact hk.2 | grind) (.int .u32 t849)) (fun _ _ => trivial)))); (case side6 => exact (Kd.V_reads' HO847.out).2.1); (case side7 => exact Kd.C_below HR0_0.out beT_); (case side8 => exact HC0_0.out); (case side9 => exact Kd.C_below HR0_1.out beT_); (case side10 => exact HC0_1.out); (case side11 => exact Kd.C_below HR0_3.out beT_); (case side12 => exact HC0_3.out); rintro e w47 ⟨rfl, hb⟩; replace HO840 := Aside0.mk (Kd.V_below (by (with_reducible repeat (first | apply Kd.V_alloc | apply Kd.V_drewN | apply Kd.V_drew)); exact (Kd.V_mono (Kd.V_far (p := ⟨gb851, 5, none⟩) (Kd.V_far (p := ⟨gb851, 4, none⟩) (Kd.V_far (p := ⟨gb851, 3, none⟩) (Kd.V_far (p := ⟨gb851, 2, none⟩) (Kd.V_far (p := ⟨gb851, 1, none⟩) (Kd.V_far (p := ⟨gb851, 0, none⟩) (Kd.V_mono HO840.out (fun k_ hk => (⟨hk, by first | exact hk.2 | exact hk.2.1 | exact hk.2.2 | omega | grind⟩ : _ ∧ k_ ≠ gb851))) (fun _ hk => by first | exact hk.2 | grind) (.slice Ao24 t838.length co24)) (fun _ hk => by first | exact hk.2 | grind) (.slice Ao27 t841.length co27)) (fun _ hk => by first | exact hk.2 | grind) (.int .u64 t844)) (fun _ hk => by first | exact hk.2 | grind) (.slice Ao28 t845.length co28)) (fun _ hk => by first | exact hk.2 | grind) (.int .u32 t848)) (fun _ hk => by first | exact hk.2 | grind) (.int .u32 t849)) (fun _ h_ => h_.1))) hb); replace HO843 := Aside0.mk (Kd.V_below (by (with_reducible repeat (first | apply Kd.V_alloc | apply Kd.V_drewN | apply Kd.V_drew)); exact (Kd.V_mono (Kd.V_far (p := ⟨gb851, 5, none⟩) (Kd.V_far (p := ⟨gb851, 4, none⟩) (Kd.V_far (p := ⟨gb851, 3, none⟩) (Kd.V_far (p := ⟨gb851, 2, none⟩) (Kd.V_far (p := ⟨gb851, 1, none⟩) (Kd.V_far (p := ⟨gb851, 0, none⟩) (Kd.V_mono HO843.out (fun k_ hk => (⟨hk, by first | exact hk.2 | exact hk.2.1 | exact hk.2.2 | omega | grind⟩ : _ ∧ k_ ≠ gb851))) (fun _ hk => by first | exact hk.2 | grind) (.slice Ao24 t838.length co24)) (fun _ hk => by first | exact hk.2 | grind) (.slice Ao27 t841.length co27)) (fun _ hk => by first | exact hk.2 | grind) (.int .u64 t844)) (fun _ hk => by first | exact hk.2 | grind) (.slice Ao28 t845.length co28)) (fun _ hk => by first | exact hk.2 | grind) (.int .u32 t848)) (fun _ hk => by first | exact hk.2 | grind) (.int .u32 t849)) (fun _ h_ => h_.1))) hb); replace HO847 := Aside0.mk (Kd.V_below (by (with_reducible repeat (first | apply Kd.V_alloc | apply Kd.V_drewN | apply Kd.V_drew)); exact (Kd.V_mono (Kd.V_far (p := ⟨gb851, 5, none⟩) (Kd.V_far (p := ⟨gb851, 4, none⟩) (Kd.V_far (p := ⟨gb851, 3, none⟩) (Kd.V_far (p := ⟨gb851, 2, none⟩) (Kd.V_far (p := ⟨gb851, 1, none⟩) (Kd.V_far (p := ⟨gb851, 0, none⟩) (Kd.V_mono HO847.out (fun k_ hk => (⟨hk, by first | exact hk.2 | exact hk.2.1 | exact hk.2.2 | omega | grind⟩ : _ ∧ k_ ≠ gb851))) (fun _ hk => by first | exact hk.2 | grind) (.slice Ao24 t838.length co24)) (fun _ hk => by first | exact hk.2 | grind) (.slice Ao27 t841.length co27)) (fun _ hk => by first | exact hk.2 | grind) (.int .u64 t844)) (fun _ hk => by first | exact hk.2 | grind) (.slice Ao28 t845.length co28)) (fun _ hk => by first | exact hk.2 | grind) (.int .u32 t848)) (fun _ hk => by first | exact hk.2 | grind) (.int .u32 t849)) (fun _ h_ => h_.1))) hb); replace BK834 := kB_ BK834 hb; replace BK851 := Aside0.mk (blk_below (g := gb851) (o := .cells #[.slice Ao24 t838.length co24, .slice Ao27 t841.length co27, .int .u64 t844, .slice Ao28 t845.length co28, .int .u32 t848, .int .u32 t849] 63 (0, 0)) (kP_ BK851.out) hb); replace HB := hB_ hb; (try clear hb); (try clear hb2); (try clear hk); (try clear hi)))
          go_meet
          case rel => exact ⟨_, (true), r1_, H', ⟨by have := HJ4.out; first | omega | exact Nat.le_refl _⟩, ⟨vT_ HO840.out⟩, ⟨vT_ HO843.out⟩, ⟨vT_ HO847.out⟩, ⟨bT_ BK834.out⟩, ⟨bT_ BK851.out⟩, ⟨beT_⟩⟩
        rw [if_neg c29] at H
        have c29b0 : (t850 == t849) = false := beq_eq_false_iff_ne.mpr c29
        have c29b1 : (t850 != t849) = true := bne_iff_ne.mpr c29
        (first | rw [c29b0] | (simp only [i64_w, i32_w]; rw [c29b0]) | skip)
        have H' := Aside0.mk H
        clear H
        have hnb48 := NB851_834.out
        have hnc48 := NB834_851.out
        obtain ⟨hcz49_0, hcz49_1, hcz49_2, hcz49_3, hcz49_4, hcz49_5, hfz49_0, hfz49_1, hfz49_2, hfz49_3, hfz49_4, hfz49_5⟩ := b6_ BK851.out
        go_wp2
        go_meet
        case rel => exact ⟨_, (true), r1_, H', ⟨by have := HJ4.out; first | omega | exact Nat.le_refl _⟩, ⟨vF_ HO840.out⟩, ⟨vF_ HO843.out⟩, ⟨vF_ HO847.out⟩, ⟨bfT_ BK834.out⟩, ⟨kP_ BK851.out⟩, ⟨beT_⟩⟩
      case rest =>
        clear HC20
        try clear c1
        try clear c2
        try clear p2
        try clear c3
        try clear c4
        try clear c8
        try clear c16
        try clear c25
        try clear c29
        try clear c29b0
        try clear c29b1
        try clear c30
        try clear c30b0
        try clear c30b1
        try clear c31
        try clear c32
        try clear c33
        try clear c34
        try clear c36
        try clear c38
        try clear c44
        try clear c48
        try clear hcz10_0
        try clear hcz10_1
        try clear hcz10_2
        try clear hcz10_3
        try clear hcz10_4
        try clear hcz10_5
        try clear hcz12_0
        try clear hcz12_1
        try clear hcz12_2
        try clear hcz12_3
        try clear hcz12_4
        try clear hcz12_5
        try clear hcz14_0
        try clear hcz14_1
        try clear hcz14_2
        try clear hcz14_3
        try clear hcz14_4
        try clear hcz14_5
        try clear hcz21_0
        try clear hcz21_1
        try clear hcz21_2
        try clear hcz21_3
        try clear hcz21_4
        try clear hcz21_5
        try clear hcz26_0
        try clear hcz26_1
        try clear hcz26_2
        try clear hcz26_3
        try clear hcz26_4
        try clear hcz26_5
        try clear hcz33_0
        try clear hcz33_1
        try clear hcz33_2
        try clear hcz33_3
        try clear hcz33_4
        try clear hcz33_5
        try clear hcz39_0
        try clear hcz39_1
        try clear hcz39_2
        try clear hcz39_3
        try clear hcz39_4
        try clear hcz39_5
        try clear hcz40_0
        try clear hcz40_1
        try clear hcz40_2
        try clear hcz40_3
        try clear hcz40_4
        try clear hcz40_5
        try clear hcz42_0
        try clear hcz42_1
        try clear hcz42_2
        try clear hcz42_3
        try clear hcz42_4
        try clear hcz42_5
        try clear hcz45_0
        try clear hcz45_1
        try clear hcz45_2
        try clear hcz45_3
        try clear hcz45_4
        try clear hcz45_5
        try clear hcz46_0
        try clear hcz46_1
        try clear hcz46_2
        try clear hcz46_3
        try clear hcz46_4
        try clear hcz46_5
        try clear hcz49_0
        try clear hcz49_1
        try clear hcz49_2
        try clear hcz49_3
        try clear hcz49_4
        try clear hcz49_5
        try clear hfz10_0
        try clear hfz10_1
        try clear hfz10_2
        try clear hfz10_3
        try clear hfz10_4
        try clear hfz10_5
        try clear hfz12_0
        try clear hfz12_1
        try clear hfz12_2
        try clear hfz12_3
        try clear hfz12_4
        try clear hfz12_5
        try clear hfz14_0
        try clear hfz14_1
        try clear hfz14_2
        try clear hfz14_3
        try clear hfz14_4
        try clear hfz14_5
        try clear hfz21_0
        try clear hfz21_1
        try clear hfz21_2
        try clear hfz21_3
        try clear hfz21_4
        try clear hfz21_5
        try clear hfz26_0
        try clear hfz26_1
        try clear hfz26_2
        try clear hfz26_3
        try clear hfz26_4
        try clear hfz26_5
        try clear hfz33_0
        try clear hfz33_1
        try clear hfz33_2
        try clear hfz33_3
        try clear hfz33_4
        try clear hfz33_5
        try clear hfz39_0
        try clear hfz39_1
        try clear hfz39_2
        try clear hfz39_3
        try clear hfz39_4
        try clear hfz39_5
        try clear hfz40_0
        try clear hfz40_1
        try clear hfz40_2
        try clear hfz40_3
        try clear hfz40_4
        try clear hfz40_5
        try clear hfz42_0
        try clear hfz42_1
        try clear hfz42_2
        try clear hfz42_3
        try clear hfz42_4
        try clear hfz42_5
        try clear hfz45_0
        try clear hfz45_1
        try clear hfz45_2
        try clear hfz45_3
        try clear hfz45_4
        try clear hfz45_5
        try clear hfz46_0
        try clear hfz46_1
        try clear hfz46_2
        try clear hfz46_3
        try clear hfz46_4
        try clear hfz46_5
        try clear hfz49_0
        try clear hfz49_1
        try clear hfz49_2
        try clear hfz49_3
        try clear hfz49_4
        try clear hfz49_5
        try clear p2
        obtain ⟨kq, x52_19, rfl, HA, HJ19, HO_852000, HO_852001, HO_852003, BK834, BK851, HB⟩ := hcut
        cases kq with
        | zero => exact absurd HA.out (by simp [ferrylaw06_GmapBack.j1])
        | succ kj19 =>
          have H := HA.out
          clear HA
          simp only [ferrylaw06_GmapBack.j1] at H
          by_cases c50 : x52_19 = true
          · subst c50
            replace H := hP_ H
            exact absurd H (by simp)
          replace c50 := Bool.eq_false_iff.mpr c50
          subst c50
          replace H := hN_ H
          replace H := Option.bind_eq_some_iff.mp H
          obtain ⟨⟨t855, t858, t861, t862, t865, t866, t867⟩, A510, H⟩ := H
          have A51 := Aside0.mk A510
          clear A510
          have HC52 := Aside0.mk H
          clear H
          have hnb53 := NB851_834.out
          have hnc53 := NB834_851.out
          obtain ⟨hcz54_0, hcz54_1, hcz54_2, hcz54_3, hcz54_4, hcz54_5, hfz54_0, hfz54_1, hfz54_2, hfz54_3, hfz54_4, hfz54_5⟩ := b6_ BK851.out
          obtain ⟨hcz55_0, hcz55_1, hcz55_2, hcz55_3, hcz55_4, hcz55_5, hfz55_0, hfz55_1, hfz55_2, hfz55_3, hfz55_4, hfz55_5⟩ := b6_ BK834.out
          go_upto_region 7 with (first | ((with_reducible refine gate_callee (f := 34) rfl ?_); refine gL_ (some 57) Try.func34 #[.agg #[.slice Ao24 t838.length co24, .slice Ao27 t841.length co27, .int .u64 t844, .slice Ao28 t845.length co28, .int .u32 t848, .int .u32 t849], .int .u32 a0_5] ?_; (with_reducible refine (gmap_Brk.calls kj19 (fun k_ => (k_ ≠ gb834 ∧ k_ ≠ gb851)) _ _ t838 (fun k_ => (k_ ≠ gb834 ∧ k_ ≠ gb851)) _ _ t841 t844 (fun k_ => (k_ ≠ gb834 ∧ k_ ≠ gb851)) _ _ t845 t848 t849 a0_5 t855 t858 t861 t862 t865 t866 t867 _ ?side1 ?side2 ?side3 A51.out).mono ?_); (case side1 => first | exact HO_852000.out | exact Kd.V_mono HO_852000.out (fun _ hk => by grind)); (case side2 => first | exact HO_852001.out | exact Kd.V_mono HO_852001.out (fun _ hk => by grind)); (case side3 => first | exact HO_852003.out | exact Kd.V_mono HO_852003.out (fun _ hk => by grind)); rintro e w56 ⟨v856, v859, v863, rfl, ho0, ho1, ho2, hb⟩; refine ⟨_, rfl, ?_⟩; have HO857 := Aside0.mk (Kd.V_lower (Kd.V_mono (ok' := fun k_ => k_ ≠ gb834 ∧ k_ ≠ gb851) ho0 (fun k_ hk_ => ⟨Or.elim hk_ (fun hs_ => Or.elim hs_ (fun hs_ => hs_.1) (fun hs_ => Or.elim hs_ (fun hs_ => hs_.1) (fun hs_ => hs_.1))) (fun hn_ => (Kd.freshB (g := gb834) (o := .cells #[.slice A0_0 l0_0.length c0_0, .slice A0_1 l0_1.length c0_1, .int .u64 a0_2, .slice A0_3 l0_3.length c0_3, .int .u32 a0_4, .int .u32 a0_5] 63 (0, 0)) (bT_ BK834.out) k_ hn_)), Or.elim hk_ (fun hs_ => Or.elim hs_ (fun hs_ => hs_.2) (fun hs_ => Or.elim hs_ (fun hs_ => hs_.2) (fun hs_ => hs_.2))) (fun hn_ => (Kd.freshB (g := gb851) (o := .cells #[.slice Ao24 t838.length co24, .slice Ao27 t841.length co27, .int .u64 t844, .slice Ao28 t845.length co28, .int .u32 t848, .int .u32 t849] 63 (0, 0)) (bT_ BK851.out) k_ hn_))⟩)) (below_size beT_)); have HO860 := Aside0.mk (Kd.V_lower (Kd.V_mono (ok' := fun k_ => k_ ≠ gb834 ∧ k_ ≠ gb851) ho1 (fun k_ hk_ => ⟨Or.elim hk_ (fun hs_ => Or.elim hs_ (fun hs_ => hs_.1) (fun hs_ => Or.elim hs_ (fun hs_ => hs_.1) (fun hs_ => hs_.1))) (fun hn_ => (Kd.freshB (g := gb834) (o := .cells #[.slice A0_0 l0_0.length c0_0, .slice A0_1 l0_1.length c0_1, .int .u64 a0_2, .slice A0_3 l0_3.length c0_3, .int .u32 a0_4, .int .u32 a0_5] 63 (0, 0)) (bT_ BK834.out) k_ hn_)), Or.elim hk_ (fun hs_ => Or.elim hs_ (fun hs_ => hs_.2) (fun hs_ => Or.elim hs_ (fun hs_ => hs_.2) (fun hs_ => hs_.2))) (fun hn_ => (Kd.freshB (g := gb851) (o := .cells #[.slice Ao24 t838.length co24, .slice Ao27 t841.length co27, .int .u64 t844, .slice Ao28 t845.length co28, .int .u32 t848, .int .u32 t849] 63 (0, 0)) (bT_ BK851.out) k_ hn_))⟩)) (below_size beT_)); have HO864 := Aside0.mk (Kd.V_lower (Kd.V_mono (ok' := fun k_ => k_ ≠ gb834 ∧ k_ ≠ gb851) ho2 (fun k_ hk_ => ⟨Or.elim hk_ (fun hs_ => Or.elim hs_ (fun hs_ => hs_.1) (fun hs_ => Or.elim hs_ (fun hs_ => hs_.1) (fun hs_ => hs_.1))) (fun hn_ => (Kd.freshB (g := gb834) (o := .cells #[.slice A0_0 l0_0.length c0_0, .slice A0_1 l0_1.length c0_1, .int .u64 a0_2, .slice A0_3 l0_3.length c0_3, .int .u32 a0_4, .int .u32 a0_5] 63 (0, 0)) (bT_ BK834.out) k_ hn_)), Or.elim hk_ (fun hs_ => Or.elim hs_ (fun hs_ => hs_.2) (fun hs_ => Or.elim hs_ (fun hs_ => hs_.2) (fun hs_ => hs_.2))) (fun hn_ => (Kd.freshB (g := gb851) (o := .cells #[.slice Ao24 t838.length co24, .slice Ao27 t841.length co27, .int .u64 t844, .slice Ao28 t845.length co28, .int .u32 t848, .int .u32 t849] 63 (0, 0)) (bT_ BK851.out) k_ hn_))⟩)) (below_size beT_)); replace HO_852000 := vB_ HO_852000.out hb; replace HO_852001 := vB_ HO_852001.out hb; replace HO_852003 := vB_ HO_852003.out hb; replace BK834 := kB_ BK834 hb; replace BK851 := kB_ BK851 hb; replace HB := hB_ hb; (try clear hb); (try clear hb2); (try clear hk); (try clear hi); (try clear ho0); (try clear ho1); (try clear ho2)) | ((with_reducible refine gate_dst (N := 11) rfl ?_); (try (refine gate_guard (by rfl) ?_; dsimp only)); refine bE_ 11 #[.slice none 0 0, .slice none 0 0, .int .u64 0, .slice none 0 0, .int .u32 0, .int .u32 0] 63 ?_; intro gb868 hg w57 hbox hb; have BK868 := Aside0.mk hbox; have GW868 := geT_ w.heap.size hg; have GE868 := geT_ w.heap.size hg; have NB834_868 := nlT_ BK834.out hg; have NB868_834 := ngT_ BK834.out hg; have NB851_868 := nlT_ BK851.out hg; have NB868_851 := ngT_ BK851.out hg; replace HO_852000 := vE_ HO_852000.out hg hb; replace HO_852001 := vE_ HO_852001.out hg hb; replace HO_852003 := vE_ HO_852003.out hg hb; replace HO857 := vE_ HO857.out hg hb; replace HO860 := vE_ HO860.out hg hb; replace HO864 := vE_ HO864.out hg hb; replace BK834 := kB_ BK834 hb; replace BK851 := kB_ BK851 hb; replace HB := hB_ hb; clear hb hbox hg; obtain ⟨Ao58, co58, eo58⟩ := Kd.V_slice HO857.out; subst eo58; have hnb59 := NB868_834.out; have hnc59 := NB834_868.out; have hnb60 := NB868_851.out; have hnc60 := NB851_868.out; obtain ⟨hcz61_0, hcz61_1, hcz61_2, hcz61_3, hcz61_4, hcz61_5, hfz61_0, hfz61_1, hfz61_2, hfz61_3, hfz61_4, hfz61_5⟩ := b6_ BK868.out; obtain ⟨Ao62, co62, eo62⟩ := Kd.V_slice HO860.out; subst eo62; obtain ⟨Ao63, co63, eo63⟩ := Kd.V_slice HO864.out; subst eo63))
          (try simp only [Act.put, List.setIfInBounds_toArray, List.set_cons_zero, List.set_cons_succ])
          go_cut [80] (fun v80 wc => ∃ (kq : Nat) (x80_51 : Bool), v80 = .bool x80_51 ∧ Aside0 (ferrylaw06_GmapBack.j2 kq a2 a3 x80_51 l0_0 l0_1 a0_2 l0_3 a0_4 a0_5 = some r) ∧ Aside0 (kq ≤ kj19) ∧ Aside0 (Kd.V k83 83 wc w.heap.size (fun k_ => k_ ≠ gb834 ∧ k_ ≠ gb851 ∧ k_ ≠ gb868) (.slice Ao24 t838.length co24) t838) ∧ Aside0 (Kd.V k88 88 wc w.heap.size (fun k_ => k_ ≠ gb834 ∧ k_ ≠ gb851 ∧ k_ ≠ gb868) (.slice Ao27 t841.length co27) t841) ∧ Aside0 (Kd.V k41 41 wc w.heap.size (fun k_ => k_ ≠ gb834 ∧ k_ ≠ gb851 ∧ k_ ≠ gb868) (.slice Ao28 t845.length co28) t845) ∧ Aside0 (Kd.V k83 83 wc w.heap.size (fun k_ => k_ ≠ gb834 ∧ k_ ≠ gb851 ∧ k_ ≠ gb868) (.slice Ao58 t855.length co58) t855) ∧ Aside0 (Kd.V k88 88 wc w.heap.size (fun k_ => k_ ≠ gb834 ∧ k_ ≠ gb851 ∧ k_ ≠ gb868) (.slice Ao62 t858.length co62) t858) ∧ Aside0 (Kd.V k41 41 wc w.heap.size (fun k_ => k_ ≠ gb834 ∧ k_ ≠ gb851 ∧ k_ ≠ gb868) (.slice Ao63 t862.length co63) t862) ∧ Aside0 (wc.heap[gb834]? = some (.cells #[(.slice A0_0 l0_0.length c0_0), (.slice A0_1 l0_1.length c0_1), .int .u64 a0_2, (.slice A0_3 l0_3.length c0_3), .int .u32 a0_4, .int .u32 a0_5] 63 (0, 0))) ∧ Aside0 (wc.heap[gb851]? = some (.cells #[(.slice Ao24 t838.length co24), (.slice Ao27 t841.length co27), .int .u64 t844, (.slice Ao28 t845.length co28), .int .u32 t848, .int .u32 t849] 63 (0, 0))) ∧ Aside0 (wc.heap[gb868]? = some (.cells #[(.slice Ao58 t855.length co58), (.slice Ao62 t858.length co62), .int .u64 t861, (.slice Ao63 t862.length co63), .int .u32 t865, .int .u32 t866] 63 (0, 0))) ∧ Aside0 (Below w.heap.size w wc))
          case first =>
            have H := HC52.out
            clear HC52
            by_cases c64 : a1 ≥ a0_5
            · rw [if_pos c64] at H
              have c64b0 : decide (a0_5 ≤ a1) = true := decide_eq_true c64
              clear c64
              (first | rw [c64b0] | (simp only [i64_w, i32_w]; rw [c64b0]) | skip)
              by_cases c65 : t867 = a0_5
              · rw [if_pos c65] at H
                have c65b0 : (t867 == a0_5) = true := beq_iff_eq.mpr c65
                have c65b1 : (t867 != a0_5) = false := bne_eq_false_iff_eq.mpr c65
                clear c65
                have H' := Aside0.mk H
                clear H
                have hnb66 := NB834_851.out
                have hnc66 := NB851_834.out
                have hnb67 := NB834_868.out
                have hnc67 := NB868_834.out
                obtain ⟨hcz68_0, hcz68_1, hcz68_2, hcz68_3, hcz68_4, hcz68_5, hfz68_0, hfz68_1, hfz68_2, hfz68_3, hfz68_4, hfz68_5⟩ := b6_ BK834.out
                have hnb69 := NB868_851.out
                have hnc69 := NB851_868.out
                obtain ⟨hcz70_0, hcz70_1, hcz70_2, hcz70_3, hcz70_4, hcz70_5, hfz70_0, hfz70_1, hfz70_2, hfz70_3, hfz70_4, hfz70_5⟩ := b6_ BK868.out
                go_wp2
                go_meet
                case rel => exact ⟨_, (((t862.length : Int) != (l0_3.length : Int))), r1_, H', ⟨by have := HJ4.out; have := HJ19.out; first | omega | exact Nat.le_refl _⟩, ⟨vF_ HO_852000.out⟩, ⟨vF_ HO_852001.out⟩, ⟨vF_ HO_852003.out⟩, ⟨vF_ HO857.out⟩, ⟨vF_ HO860.out⟩, ⟨vF_ HO864.out⟩, ⟨bfT_ BK834.out⟩, ⟨bfT_ BK851.out⟩, ⟨kP_ BK868.out⟩, ⟨beT_⟩⟩
              rw [if_neg c65] at H
              have c65b0 : (t867 == a0_5) = false := beq_eq_false_iff_ne.mpr c65
              have c65b1 : (t867 != a0_5) = true := bne_iff_ne.mpr c65
              have H' := Aside0.mk H
              clear H
              have hnb71 := NB834_851.out
              have hnc71 := NB851_834.out
              have hnb72 := NB834_868.out
              have hnc72 := NB868_834.out
              obtain ⟨hcz73_0, hcz73_1, hcz73_2, hcz73_3, hcz73_4, hcz73_5, hfz73_0, hfz73_1, hfz73_2, hfz73_3, hfz73_4, hfz73_5⟩ := b6_ BK834.out
              go_wp2
              go_meet
              case rel => exact ⟨_, (true), r1_, H', ⟨by have := HJ4.out; have := HJ19.out; first | omega | exact Nat.le_refl _⟩, ⟨vF_ HO_852000.out⟩, ⟨vF_ HO_852001.out⟩, ⟨vF_ HO_852003.out⟩, ⟨vF_ HO857.out⟩, ⟨vF_ HO860.out⟩, ⟨vF_ HO864.out⟩, ⟨bfT_ BK834.out⟩, ⟨bfT_ BK851.out⟩, ⟨kP_ BK868.out⟩, ⟨beT_⟩⟩
            rw [if_neg c64] at H
            have c64b0 : decide (a0_5 ≤ a1) = false := decide_eq_false c64
            clear c64
            (first | rw [c64b0] | (simp only [i64_w, i32_w]; rw [c64b0]) | skip)
            have H' := Aside0.mk H
            clear H
            have hnb74 := NB834_851.out
            have hnc74 := NB851_834.out
            have hnb75 := NB834_868.out
            have hnc75 := NB868_834.out
            obtain ⟨hcz76_0, hcz76_1, hcz76_2, hcz76_3, hcz76_4, hcz76_5, hfz76_0, hfz76_1, hfz76_2, hfz76_3, hfz76_4, hfz76_5⟩ := b6_ BK834.out
            go_wp2
            go_meet
            case rel => exact ⟨_, (false), r1_, H', ⟨by have := HJ4.out; have := HJ19.out; first | omega | exact Nat.le_refl _⟩, ⟨vF_ HO_852000.out⟩, ⟨vF_ HO_852001.out⟩, ⟨vF_ HO_852003.out⟩, ⟨vF_ HO857.out⟩, ⟨vF_ HO860.out⟩, ⟨vF_ HO864.out⟩, ⟨bfT_ BK834.out⟩, ⟨bfT_ BK851.out⟩, ⟨kP_ BK868.out⟩, ⟨beT_⟩⟩
          case rest =>
            clear HC52
            try clear c1
            try clear c2
            try clear p2
            try clear c3
            try clear c4
            try clear c5
            try clear c6
            try clear c7
            try clear c8
            try clear c16
            try clear c25
            try clear c29
            try clear c29b0
            try clear c29b1
            try clear c30
            try clear c30b0
            try clear c30b1
            try clear c31
            try clear c32
            try clear c33
            try clear c34
            try clear c36
            try clear c38
            try clear c44
            try clear c48
            try clear c50
            try clear c53
            try clear c59
            try clear c60
            try clear c64
            try clear c64b0
            try clear c65
            try clear c65b0
            try clear c65b1
            try clear c66
            try clear c67
            try clear c69
            try clear c71
            try clear c72
            try clear c74
            try clear c75
            try clear hcz10_0
            try clear hcz10_1
            try clear hcz10_2
            try clear hcz10_3
            try clear hcz10_4
            try clear hcz10_5
            try clear hcz12_0
            try clear hcz12_1
            try clear hcz12_2
            try clear hcz12_3
            try clear hcz12_4
            try clear hcz12_5
            try clear hcz14_0
            try clear hcz14_1
            try clear hcz14_2
            try clear hcz14_3
            try clear hcz14_4
            try clear hcz14_5
            try clear hcz21_0
            try clear hcz21_1
            try clear hcz21_2
            try clear hcz21_3
            try clear hcz21_4
            try clear hcz21_5
            try clear hcz26_0
            try clear hcz26_1
            try clear hcz26_2
            try clear hcz26_3
            try clear hcz26_4
            try clear hcz26_5
            try clear hcz33_0
            try clear hcz33_1
            try clear hcz33_2
            try clear hcz33_3
            try clear hcz33_4
            try clear hcz33_5
            try clear hcz39_0
            try clear hcz39_1
            try clear hcz39_2
            try clear hcz39_3
            try clear hcz39_4
            try clear hcz39_5
            try clear hcz40_0
            try clear hcz40_1
            try clear hcz40_2
            try clear hcz40_3
            try clear hcz40_4
            try clear hcz40_5
            try clear hcz42_0
            try clear hcz42_1
            try clear hcz42_2
            try clear hcz42_3
            try clear hcz42_4
            try clear hcz42_5
            try clear hcz45_0
            try clear hcz45_1
            try clear hcz45_2
            try clear hcz45_3
            try clear hcz45_4
            try clear hcz45_5
            try clear hcz46_0
            try clear hcz46_1
            try clear hcz46_2
            try clear hcz46_3
            try clear hcz46_4
            try clear hcz46_5
            try clear hcz49_0
            try clear hcz49_1
            try clear hcz49_2
            try clear hcz49_3
            try clear hcz49_4
            try clear hcz49_5
            try clear hcz54_0
            try clear hcz54_1
            try clear hcz54_2
            try clear hcz54_3
            try clear hcz54_4
            try clear hcz54_5
            try clear hcz55_0
            try clear hcz55_1
            try clear hcz55_2
            try clear hcz55_3
            try clear hcz55_4
            try clear hcz55_5
            try clear hcz61_0
            try clear hcz61_1
            try clear hcz61_2
            try clear hcz61_3
            try clear hcz61_4
            try clear hcz61_5
            try clear hcz68_0
            try clear hcz68_1
            try clear hcz68_2
            try clear hcz68_3
            try clear hcz68_4
            try clear hcz68_5
            try clear hcz70_0
            try clear hcz70_1
            try clear hcz70_2
            try clear hcz70_3
            try clear hcz70_4
            try clear hcz70_5
            try clear hcz73_0
            try clear hcz73_1
            try clear hcz73_2
            try clear hcz73_3
            try clear hcz73_4
            try clear hcz73_5
            try clear hcz76_0
            try clear hcz76_1
            try clear hcz76_2
            try clear hcz76_3
            try clear hcz76_4
            try clear hcz76_5
            try clear hfz10_0
            try clear hfz10_1
            try clear hfz10_2
            try clear hfz10_3
            try clear hfz10_4
            try clear hfz10_5
            try clear hfz12_0
            try clear hfz12_1
            try clear hfz12_2
            try clear hfz12_3
            try clear hfz12_4
            try clear hfz12_5
            try clear hfz14_0
            try clear hfz14_1
            try clear hfz14_2
            try clear hfz14_3
            try clear hfz14_4
            try clear hfz14_5
            try clear hfz21_0
            try clear hfz21_1
            try clear hfz21_2
            try clear hfz21_3
            try clear hfz21_4
            try clear hfz21_5
            try clear hfz26_0
            try clear hfz26_1
            try clear hfz26_2
            try clear hfz26_3
            try clear hfz26_4
            try clear hfz26_5
            try clear hfz33_0
            try clear hfz33_1
            try clear hfz33_2
            try clear hfz33_3
            try clear hfz33_4
            try clear hfz33_5
            try clear hfz39_0
            try clear hfz39_1
            try clear hfz39_2
            try clear hfz39_3
            try clear hfz39_4
            try clear hfz39_5
            try clear hfz40_0
            try clear hfz40_1
            try clear hfz40_2
            try clear hfz40_3
            try clear hfz40_4
            try clear hfz40_5
            try clear hfz42_0
            try clear hfz42_1
            try clear hfz42_2
            try clear hfz42_3
            try clear hfz42_4
            try clear hfz42_5
            try clear hfz45_0
            try clear hfz45_1
            try clear hfz45_2
            try clear hfz45_3
            try clear hfz45_4
            try clear hfz45_5
            try clear hfz46_0
            try clear hfz46_1
            try clear hfz46_2
            try clear hfz46_3
            try clear hfz46_4
            try clear hfz46_5
            try clear hfz49_0
            try clear hfz49_1
            try clear hfz49_2
            try clear hfz49_3
            try clear hfz49_4
            try clear hfz49_5
            try clear hfz54_0
            try clear hfz54_1
            try clear hfz54_2
            try clear hfz54_3
            try clear hfz54_4
            try clear hfz54_5
            try clear hfz55_0
            try clear hfz55_1
            try clear hfz55_2
            try clear hfz55_3
            try clear hfz55_4
            try clear hfz55_5
            try clear hfz61_0
            try clear hfz61_1
            try clear hfz61_2
            try clear hfz61_3
            try clear hfz61_4
            try clear hfz61_5
            try clear hfz68_0
            try clear hfz68_1
            try clear hfz68_2
            try clear hfz68_3
            try clear hfz68_4
            try clear hfz68_5
            try clear hfz70_0
            try clear hfz70_1
            try clear hfz70_2
            try clear hfz70_3
            try clear hfz70_4
            try clear hfz70_5
            try clear hfz73_0
            try clear hfz73_1
            try clear hfz73_2
            try clear hfz73_3
            try clear hfz73_4
            try clear hfz73_5
            try clear hfz76_0
            try clear hfz76_1
            try clear hfz76_2
            try clear hfz76_3
            try clear hfz76_4
            try clear hfz76_5
            try clear p2
            obtain ⟨kq, x80_51, rfl, HA, HJ51, HO_852000, HO_852001, HO_852003, HO_869000, HO_869001, HO_869003, BK834, BK851, BK868, HB⟩ := hcut
            cases kq with
            | zero => exact absurd HA.out (by simp [ferrylaw06_GmapBack.j2])
            | succ kj51 =>
              have H := HA.out
              clear HA
              simp only [ferrylaw06_GmapBack.j2] at H
              by_cases c77 : x80_51 = true
              · subst c77
                replace H := hP_ H
                exact absurd H (by simp)
              replace c77 := Bool.eq_false_iff.mpr c77
              subst c77
              replace H := hN_ H
              replace H := Option.bind_eq_some_iff.mp H
              obtain ⟨⟨t869, t872, t875, t876, t879, t880, t881, t882⟩, A780, H⟩ := H
              have A78 := Aside0.mk A780
              clear A780
              by_cases c79 : t882 = 0
              · rw [if_pos c79] at H
                have c79b0 : (t882 == 0) = true := beq_iff_eq.mpr c79
                have c79b1 : (t882 != 0) = false := bne_eq_false_iff_eq.mpr c79
                clear c79
                replace H := Option.bind_eq_some_iff.mp H
                obtain ⟨⟨t884, t887, t890, t891, t894, t895, t896⟩, A800, H⟩ := H
                have A80 := Aside0.mk A800
                clear A800
                by_cases c81 : t896 = 0
                · rw [if_pos c81] at H
                  have c81b0 : (t896 == 0) = true := beq_iff_eq.mpr c81
                  have c81b1 : (t896 != 0) = false := bne_eq_false_iff_eq.mpr c81
                  clear c81
                  replace H := Option.bind_eq_some_iff.mp H
                  obtain ⟨t898, A820, H⟩ := H
                  have A82 := Aside0.mk A820
                  clear A820
                  by_cases c83 : t898 = true
                  · subst c83
                    replace H := hP_ H
                    replace H := Option.bind_eq_some_iff.mp H
                    obtain ⟨t899, A840, H⟩ := H
                    have A84 := Aside0.mk A840
                    clear A840
                    obtain rfl := Option.some.inj H
                    have hnb85 := NB834_851.out
                    have hnc85 := NB851_834.out
                    have hnb86 := NB834_868.out
                    have hnc86 := NB868_834.out
                    obtain ⟨hcz87_0, hcz87_1, hcz87_2, hcz87_3, hcz87_4, hcz87_5, hfz87_0, hfz87_1, hfz87_2, hfz87_3, hfz87_4, hfz87_5⟩ := b6_ BK834.out
                    go_wp2_with (first | ((with_reducible refine gate_callee (f := 36) rfl ?_); refine gL_ (some 85) Try.func36 #[.agg #[.slice A0_0 l0_0.length c0_0, .slice A0_1 l0_1.length c0_1, .int .u64 a0_2, .slice A0_3 l0_3.length c0_3, .int .u32 a0_4, .int .u32 a0_5], .int .u32 0, .int .u32 a2, .int .i64 a3, .bool false] ?_; (with_reducible refine (gmap_Mmap.calls kj51 (fun k_ => k_ < w.heap.size) _ _ l0_0 (fun k_ => k_ < w.heap.size) _ _ l0_1 a0_2 (fun k_ => k_ < w.heap.size) _ _ l0_3 a0_4 a0_5 0 a2 a3 false t869 t872 t875 t876 t879 t880 t881 t882 _ ?side1 ?side2 ?side3 A78.out).mono ?_); (case side1 => exact Kd.V_mk HC0_0.out (Kd.F_below (Kd.C_F k83_heap HR0_0.out) beT_)); (case side2 => exact Kd.V_mk HC0_1.out (Kd.F_below (Kd.C_F k88_heap HR0_1.out) beT_)); (case side3 => exact Kd.V_mk HC0_3.out (Kd.F_below (Kd.C_F k41_heap HR0_3.out) beT_)); rintro e w88 ⟨v870, v873, v877, rfl, ho0, ho1, ho2, hb⟩; refine ⟨_, rfl, ?_⟩; have HO871 := Aside0.mk (Kd.V_lower (Kd.V_mono (ok' := fun k_ => k_ ≠ gb834 ∧ k_ ≠ gb851 ∧ k_ ≠ gb868) ho0 (fun k_ hk_ => ⟨Or.elim hk_ (fun hs_ => Or.elim hs_ (fun hs_ => fun e_ => Nat.not_le.2 hs_ (by rw [e_]; exact GW834.out)) (fun hs_ => Or.elim hs_ (fun hs_ => fun e_ => Nat.not_le.2 hs_ (by rw [e_]; exact GW834.out)) (fun hs_ => fun e_ => Nat.not_le.2 hs_ (by rw [e_]; exact GW834.out)))) (fun hn_ => (Kd.freshB (g := gb834) (o := .cells #[.slice A0_0 l0_0.length c0_0, .slice A0_1 l0_1.length c0_1, .int .u64 a0_2, .slice A0_3 l0_3.length c0_3, .int .u32 a0_4, .int .u32 a0_5] 63 (0, 0)) (bT_ BK834.out) k_ hn_)), Or.elim hk_ (fun hs_ => Or.elim hs_ (fun hs_ => fun e_ => Nat.not_le.2 hs_ (by rw [e_]; exact GW851.out)) (fun hs_ => Or.elim hs_ (fun hs_ => fun e_ => Nat.not_le.2 hs_ (by rw [e_]; exact GW851.out)) (fun hs_ => fun e_ => Nat.not_le.2 hs_ (by rw [e_]; exact GW851.out)))) (fun hn_ => (Kd.freshB (g := gb851) (o := .cells #[.slice Ao24 t838.length co24, .slice Ao27 t841.length co27, .int .u64 t844, .slice Ao28 t845.length co28, .int .u32 t848, .int .u32 t849] 63 (0, 0)) (bT_ BK851.out) k_ hn_)), Or.elim hk_ (fun hs_ => Or.elim hs_ (fun hs_ => fun e_ => Nat.not_le.2 hs_ (by rw [e_]; exact GW868.out)) (fun hs_ => Or.elim hs_ (fun hs_ => fun e_ => Nat.not_le.2 hs_ (by rw [e_]; exact GW868.out)) (fun hs_ => fun e_ => Nat.not_le.2 hs_ (by rw [e_]; exact GW868.out)))) (fun hn_ => (Kd.freshB (g := gb868) (o := .cells #[.slice Ao58 t855.length co58, .slice Ao62 t858.length co62, .int .u64 t861, .slice Ao63 t862.length co63, .int .u32 t865, .int .u32 t866] 63 (0, 0)) (bT_ BK868.out) k_ hn_))⟩)) (below_size beT_)); have HO874 := Aside0.mk (Kd.V_lower (Kd.V_mono (ok' := fun k_ => k_ ≠ gb834 ∧ k_ ≠ gb851 ∧ k_ ≠ gb868) ho1 (fun k_ hk_ => ⟨Or.elim hk_ (fun hs_ => Or.elim hs_ (fun hs_ => fun e_ => Nat.not_le.2 hs_ (by rw [e_]; exact GW834.out)) (fun hs_ => Or.elim hs_ (fun hs_ => fun e_ => Nat.not_le.2 hs_ (by rw [e_]; exact GW834.out)) (fun hs_ => fun e_ => Nat.not_le.2 hs_ (by rw [e_]; exact GW834.out)))) (fun hn_ => (Kd.freshB (g := gb834) (o := .cells #[.slice A0_0 l0_0.length c0_0, .slice A0_1 l0_1.length c0_1, .int .u64 a0_2, .slice A0_3 l0_3.length c0_3, .int .u32 a0_4, .int .u32 a0_5] 63 (0, 0)) (bT_ BK834.out) k_ hn_)), Or.elim hk_ (fun hs_ => Or.elim hs_ (fun hs_ => fun e_ => Nat.not_le.2 hs_ (by rw [e_]; exact GW851.out)) (fun hs_ => Or.elim hs_ (fun hs_ => fun e_ => Nat.not_le.2 hs_ (by rw [e_]; exact GW851.out)) (fun hs_ => fun e_ => Nat.not_le.2 hs_ (by rw [e_]; exact GW851.out)))) (fun hn_ => (Kd.freshB (g := gb851) (o := .cells #[.slice Ao24 t838.length co24, .slice Ao27 t841.length co27, .int .u64 t844, .slice Ao28 t845.length co28, .int .u32 t848, .int .u32 t849] 63 (0, 0)) (bT_ BK851.out) k_ hn_)), Or.elim hk_ (fun hs_ => Or.elim hs_ (fun hs_ => fun e_ => Nat.not_le.2 hs_ (by rw [e_]; exact GW868.out)) (fun hs_ => Or.elim hs_ (fun hs_ => fun e_ => Nat.not_le.2 hs_ (by rw [e_]; exact GW868.out)) (fun hs_ => fun e_ => Nat.not_le.2 hs_ (by rw [e_]; exact GW868.out)))) (fun hn_ => (Kd.freshB (g := gb868) (o := .cells #[.slice Ao58 t855.length co58, .slice Ao62 t858.length co62, .int .u64 t861, .slice Ao63 t862.length co63, .int .u32 t865, .int .u32 t866] 63 (0, 0)) (bT_ BK868.out) k_ hn_))⟩)) (below_size beT_)); have HO878 := Aside0.mk (Kd.V_lower (Kd.V_mono (ok' := fun k_ => k_ ≠ gb834 ∧ k_ ≠ gb851 ∧ k_ ≠ gb868) ho2 (fun k_ hk_ => ⟨Or.elim hk_ (fun hs_ => Or.elim hs_ (fun hs_ => fun e_ => Nat.not_le.2 hs_ (by rw [e_]; exact GW834.out)) (fun hs_ => Or.elim hs_ (fun hs_ => fun e_ => Nat.not_le.2 hs_ (by rw [e_]; exact GW834.out)) (fun hs_ => fun e_ => Nat.not_le.2 hs_ (by rw [e_]; exact GW834.out)))) (fun hn_ => (Kd.freshB (g := gb834) (o := .cells #[.slice A0_0 l0_0.length c0_0, .slice A0_1 l0_1.length c0_1, .int .u64 a0_2, .slice A0_3 l0_3.length c0_3, .int .u32 a0_4, .int .u32 a0_5] 63 (0, 0)) (bT_ BK834.out) k_ hn_)), Or.elim hk_ (fun hs_ => Or.elim hs_ (fun hs_ => fun e_ => Nat.not_le.2 hs_ (by rw [e_]; exact GW851.out)) (fun hs_ => Or.elim hs_ (fun hs_ => fun e_ => Nat.not_le.2 hs_ (by rw [e_]; exact GW851.out)) (fun hs_ => fun e_ => Nat.not_le.2 hs_ (by rw [e_]; exact GW851.out)))) (fun hn_ => (Kd.freshB (g := gb851) (o := .cells #[.slice Ao24 t838.length co24, .slice Ao27 t841.length co27, .int .u64 t844, .slice Ao28 t845.length co28, .int .u32 t848, .int .u32 t849] 63 (0, 0)) (bT_ BK851.out) k_ hn_)), Or.elim hk_ (fun hs_ => Or.elim hs_ (fun hs_ => fun e_ => Nat.not_le.2 hs_ (by rw [e_]; exact GW868.out)) (fun hs_ => Or.elim hs_ (fun hs_ => fun e_ => Nat.not_le.2 hs_ (by rw [e_]; exact GW868.out)) (fun hs_ => fun e_ => Nat.not_le.2 hs_ (by rw [e_]; exact GW868.out)))) (fun hn_ => (Kd.freshB (g := gb868) (o := .cells #[.slice Ao58 t855.length co58, .slice Ao62 t858.length co62, .int .u64 t861, .slice Ao63 t862.length co63, .int .u32 t865, .int .u32 t866] 63 (0, 0)) (bT_ BK868.out) k_ hn_))⟩)) (below_size beT_)); replace HO_852000 := vB_ HO_852000.out hb; replace HO_852001 := vB_ HO_852001.out hb; replace HO_852003 := vB_ HO_852003.out hb; replace HO_869000 := vB_ HO_869000.out hb; replace HO_869001 := vB_ HO_869001.out hb; replace HO_869003 := vB_ HO_869003.out hb; replace BK834 := kB_ BK834 hb; replace BK851 := kB_ BK851 hb; replace BK868 := kB_ BK868 hb; replace HB := hB_ hb; (try clear hb); (try clear hb2); (try clear hk); (try clear hi); (try clear ho0); (try clear ho1); (try clear ho2)) | ((with_reducible refine gate_dst (N := 13) rfl ?_); (try (refine gate_guard (by rfl) ?_; dsimp only)); refine bE_ 13 #[.slice none 0 0, .slice none 0 0, .int .u64 0, .slice none 0 0, .int .u32 0, .int .u32 0] 63 ?_; intro gb883 hg w89 hbox hb; have BK883 := Aside0.mk hbox; have GW883 := geT_ w.heap.size hg; have GE883 := geT_ w.heap.size hg; have NB834_883 := nlT_ BK834.out hg; have NB883_834 := ngT_ BK834.out hg; have NB851_883 := nlT_ BK851.out hg; have NB883_851 := ngT_ BK851.out hg; have NB868_883 := nlT_ BK868.out hg; have NB883_868 := ngT_ BK868.out hg; replace HO_852000 := vE_ HO_852000.out hg hb; replace HO_852001 := vE_ HO_852001.out hg hb; replace HO_852003 := vE_ HO_852003.out hg hb; replace HO_869000 := vE_ HO_869000.out hg hb; replace HO_869001 := vE_ HO_869001.out hg hb; replace HO_869003 := vE_ HO_869003.out hg hb; replace HO871 := vE_ HO871.out hg hb; replace HO874 := vE_ HO874.out hg hb; replace HO878 := vE_ HO878.out hg hb; replace BK834 := kB_ BK834 hb; replace BK851 := kB_ BK851 hb; replace BK868 := kB_ BK868 hb; replace HB := hB_ hb; clear hb hbox hg; obtain ⟨Ao90, co90, eo90⟩ := Kd.V_slice HO871.out; subst eo90; have hnb91 := NB883_834.out; have hnc91 := NB834_883.out; have hnb92 := NB883_851.out; have hnc92 := NB851_883.out; have hnb93 := NB883_868.out; have hnc93 := NB868_883.out; obtain ⟨hcz94_0, hcz94_1, hcz94_2, hcz94_3, hcz94_4, hcz94_5, hfz94_0, hfz94_1, hfz94_2, hfz94_3, hfz94_4, hfz94_5⟩ := b6_ BK883.out; obtain ⟨Ao95, co95, eo95⟩ := Kd.V_slice HO874.out; subst eo95; obtain ⟨Ao96, co96, eo96⟩ := Kd.V_slice HO878.out; subst eo96) | ((with_reducible refine gate_store (t := 63) (p := 13) rfl ?_); refine store_event (t := 63) (p := 13) (v := ?vo_w97) (w1 := ((((((w89.setCell ⟨gb883, 0, none⟩ (.slice Ao90 t869.length co90)).setCell ⟨gb883, 1, none⟩ (.slice Ao95 t872.length co95)).setCell ⟨gb883, 2, none⟩ (.int .u64 t875)).setCell ⟨gb883, 3, none⟩ (.slice Ao96 t876.length co96)).setCell ⟨gb883, 4, none⟩ (.int .u32 t879)).setCell ⟨gb883, 5, none⟩ (.int .u32 t880))) ?hg ?ho ?hn ?hr ?_; (case ho => rfl); (case hg => rfl); (case hn => rfl); (case hr => first | (go_simp; done) | (go_simp; rfl)); intro w97 hw; replace HO_852000 : Aside0 (Kd.V k83 83 w97 w.heap.size (fun k_ => k_ ≠ gb834 ∧ k_ ≠ gb851 ∧ k_ ≠ gb868 ∧ k_ ≠ gb883) (.slice Ao24 t838.length co24) t838) := ⟨(by rw [hw]; exact (vF_ HO_852000.out))⟩; replace HO_852001 : Aside0 (Kd.V k88 88 w97 w.heap.size (fun k_ => k_ ≠ gb834 ∧ k_ ≠ gb851 ∧ k_ ≠ gb868 ∧ k_ ≠ gb883) (.slice Ao27 t841.length co27) t841) := ⟨(by rw [hw]; exact (vF_ HO_852001.out))⟩; replace HO_852003 : Aside0 (Kd.V k41 41 w97 w.heap.size (fun k_ => k_ ≠ gb834 ∧ k_ ≠ gb851 ∧ k_ ≠ gb868 ∧ k_ ≠ gb883) (.slice Ao28 t845.length co28) t845) := ⟨(by rw [hw]; exact (vF_ HO_852003.out))⟩; replace HO_869000 : Aside0 (Kd.V k83 83 w97 w.heap.size (fun k_ => k_ ≠ gb834 ∧ k_ ≠ gb851 ∧ k_ ≠ gb868 ∧ k_ ≠ gb883) (.slice Ao58 t855.length co58) t855) := ⟨(by rw [hw]; exact (vF_ HO_869000.out))⟩; replace HO_869001 : Aside0 (Kd.V k88 88 w97 w.heap.size (fun k_ => k_ ≠ gb834 ∧ k_ ≠ gb851 ∧ k_ ≠ gb868 ∧ k_ ≠ gb883) (.slice Ao62 t858.length co62) t858) := ⟨(by rw [hw]; exact (vF_ HO_869001.out))⟩; replace HO_869003 : Aside0 (Kd.V k41 41 w97 w.heap.size (fun k_ => k_ ≠ gb834 ∧ k_ ≠ gb851 ∧ k_ ≠ gb868 ∧ k_ ≠ gb883) (.slice Ao63 t862.length co63) t862) := ⟨(by rw [hw]; exact (vF_ HO_869003.out))⟩; replace HO871 : Aside0 (Kd.V k83 83 w97 w.heap.size (fun k_ => k_ ≠ gb834 ∧ k_ ≠ gb851 ∧ k_ ≠ gb868 ∧ k_ ≠ gb883) (.slice Ao90 t869.length co90) t869) := ⟨(by rw [hw]; exact (vF_ HO871.out))⟩; replace HO874 : Aside0 (Kd.V k88 88 w97 w.heap.size (fun k_ => k_ ≠ gb834 ∧ k_ ≠ gb851 ∧ k_ ≠ gb868 ∧ k_ ≠ gb883) (.slice Ao95 t872.length co95) t872) := ⟨(by rw [hw]; exact (vF_ HO874.out))⟩; replace HO878 : Aside0 (Kd.V k41 41 w97 w.heap.size (fun k_ => k_ ≠ gb834 ∧ k_ ≠ gb851 ∧ k_ ≠ gb868 ∧ k_ ≠ gb883) (.slice Ao96 t876.length co96) t876) := ⟨(by rw [hw]; exact (vF_ HO878.out))⟩; replace BK834 : Aside0 (w97.heap[gb834]? = some (.cells #[.slice A0_0 l0_0.length c0_0, .slice A0_1 l0_1.length c0_1, .int .u64 a0_2, .slice A0_3 l0_3.length c0_3, .int .u32 a0_4, .int .u32 a0_5] 63 (0, 0))) := ⟨(by rw [hw]; exact (bfT_ BK834.out))⟩; replace BK851 : Aside0 (w97.heap[gb851]? = some (.cells #[.slice Ao24 t838.length co24, .slice Ao27 t841.length co27, .int .u64 t844, .slice Ao28 t845.length co28, .int .u32 t848, .int .u32 t849] 63 (0, 0))) := ⟨(by rw [hw]; exact (bfT_ BK851.out))⟩; replace BK868 : Aside0 (w97.heap[gb868]? = some (.cells #[.slice Ao58 t855.length co58, .slice Ao62 t858.length co62, .int .u64 t861, .slice Ao63 t862.length co63, .int .u32 t865, .int .u32 t866] 63 (0, 0))) := ⟨(by rw [hw]; exact (bfT_ BK868.out))⟩; replace BK883 : Aside0 (w97.heap[gb883]? = some (.cells #[.slice Ao90 t869.length co90, .slice Ao95 t872.length co95, .int .u64 t875, .slice Ao96 t876.length co96, .int .u32 t879, .int .u32 t880] 63 (0, 0))) := ⟨(by rw [hw]; exact (kP_ BK883.out))⟩; replace HB : Aside0 (Below w.heap.size w w97) := ⟨(by rw [hw]; exact beT_)⟩; clear hw; obtain ⟨hcz98_0, hcz98_1, hcz98_2, hcz98_3, hcz98_4, hcz98_5, hfz98_0, hfz98_1, hfz98_2, hfz98_3, hfz98_4, hfz98_5⟩ := b6_ BK883.out) | ((with_reducible refine gate_callee (f := 37) rfl ?_); refine gL_ (some 96) Try.func37 #[.agg #[.slice Ao90 t869.length co90, .slice Ao95 t872.length co95, .int .u64 t875, .slice Ao96 t876.length co96, .int .u32 t879, .int .u32 t880], .int .u32 t881, .int .u32 a2] ?_; (with_reducible refine (gmap_Munmap.calls kj51 (fun k_ => (k_ ≠ gb834 ∧ (k_ ≠ gb851 ∧ (k_ ≠ gb868 ∧ k_ ≠ gb883)))) _ _ t869 (fun k_ => (k_ ≠ gb834 ∧ (k_ ≠ gb851 ∧ (k_ ≠ gb868 ∧ k_ ≠ gb883)))) _ _ t872 t875 (fun k_ => (k_ ≠ gb834 ∧ (k_ ≠ gb851 ∧ (k_ ≠ gb868 ∧ k_ ≠ gb883)))) _ _ t876 t879 t880 t881 a2 t884 t887 t890 t891 t894 t895 t896 _ ?side1 ?side2 ?side3 A80.out).mono ?_); (case side1 => first | exact HO871.out | exact Kd.V_mono HO871.out (fun _ hk => by grind)); (case side2 => first | exact HO874.out | exact Kd.V_mono HO874.out (fun _ hk => by grind)); (case side3 => first | exact HO878.out | exact Kd.V_mono HO878.out (fun _ hk => by grind)); rintro e w99 ⟨v885, v888, v892, rfl, ho0, ho1, ho2, hb⟩; refine ⟨_, rfl, ?_⟩; have HO886 := Aside0.mk (Kd.V_lower (Kd.V_mono (ok' := fun k_ => k_ ≠ gb834 ∧ k_ ≠ gb851 ∧ k_ ≠ gb868 ∧ k_ ≠ gb883) ho0 (fun k_ hk_ => ⟨Or.elim hk_ (fun hs_ => Or.elim hs_ (fun hs_ => hs_.1) (fun hs_ => Or.elim hs_ (fun hs_ => hs_.1) (fun hs_ => hs_.1))) (fun hn_ => (Kd.freshB (g := gb834) (o := .cells #[.slice A0_0 l0_0.length c0_0, .slice A0_1 l0_1.length c0_1, .int .u64 a0_2, .slice A0_3 l0_3.length c0_3, .int .u32 a0_4, .int .u32 a0_5] 63 (0, 0)) (bT_ BK834.out) k_ hn_)), Or.elim hk_ (fun hs_ => Or.elim hs_ (fun hs_ => hs_.2.1) (fun hs_ => Or.elim hs_ (fun hs_ => hs_.2.1) (fun hs_ => hs_.2.1))) (fun hn_ => (Kd.freshB (g := gb851) (o := .cells #[.slice Ao24 t838.length co24, .slice Ao27 t841.length co27, .int .u64 t844, .slice Ao28 t845.length co28, .int .u32 t848, .int .u32 t849] 63 (0, 0)) (bT_ BK851.out) k_ hn_)), Or.elim hk_ (fun hs_ => Or.elim hs_ (fun hs_ => hs_.2.2.1) (fun hs_ => Or.elim hs_ (fun hs_ => hs_.2.2.1) (fun hs_ => hs_.2.2.1))) (fun hn_ => (Kd.freshB (g := gb868) (o := .cells #[.slice Ao58 t855.length co58, .slice Ao62 t858.length co62, .int .u64 t861, .slice Ao63 t862.length co63, .int .u32 t865, .int .u32 t866] 63 (0, 0)) (bT_ BK868.out) k_ hn_)), Or.elim hk_ (fun hs_ => Or.elim hs_ (fun hs_ => hs_.2.2.2) (fun hs_ => Or.elim hs_ (fun hs_ => hs_.2.2.2) (fun hs_ => hs_.2.2.2))) (fun hn_ => (Kd.freshB (g := gb883) (o := .cells #[.slice Ao90 t869.length co90, .slice Ao95 t872.length co95, .int .u64 t875, .slice Ao96 t876.length co96, .int .u32 t879, .int .u32 t880] 63 (0, 0)) (bT_ BK883.out) k_ hn_))⟩)) (below_size beT_)); have HO889 := Aside0.mk (Kd.V_lower (Kd.V_mono (ok' := fun k_ => k_ ≠ gb834 ∧ k_ ≠ gb851 ∧ k_ ≠ gb868 ∧ k_ ≠ gb883) ho1 (fun k_ hk_ => ⟨Or.elim hk_ (fun hs_ => Or.elim hs_ (fun hs_ => hs_.1) (fun hs_ => Or.elim hs_ (fun hs_ => hs_.1) (fun hs_ => hs_.1))) (fun hn_ => (Kd.freshB (g := gb834) (o := .cells #[.slice A0_0 l0_0.length c0_0, .slice A0_1 l0_1.length c0_1, .int .u64 a0_2, .slice A0_3 l0_3.length c0_3, .int .u32 a0_4, .int .u32 a0_5] 63 (0, 0)) (bT_ BK834.out) k_ hn_)), Or.elim hk_ (fun hs_ => Or.elim hs_ (fun hs_ => hs_.2.1) (fun hs_ => Or.elim hs_ (fun hs_ => hs_.2.1) (fun hs_ => hs_.2.1))) (fun hn_ => (Kd.freshB (g := gb851) (o := .cells #[.slice Ao24 t838.length co24, .slice Ao27 t841.length co27, .int .u64 t844, .slice Ao28 t845.length co28, .int .u32 t848, .int .u32 t849] 63 (0, 0)) (bT_ BK851.out) k_ hn_)), Or.elim hk_ (fun hs_ => Or.elim hs_ (fun hs_ => hs_.2.2.1) (fun hs_ => Or.elim hs_ (fun hs_ => hs_.2.2.1) (fun hs_ => hs_.2.2.1))) (fun hn_ => (Kd.freshB (g := gb868) (o := .cells #[.slice Ao58 t855.length co58, .slice Ao62 t858.length co62, .int .u64 t861, .slice Ao63 t862.length co63, .int .u32 t865, .int .u32 t866] 63 (0, 0)) (bT_ BK868.out) k_ hn_)), Or.elim hk_ (fun hs_ => Or.elim hs_ (fun hs_ => hs_.2.2.2) (fun hs_ => Or.elim hs_ (fun hs_ => hs_.2.2.2) (fun hs_ => hs_.2.2.2))) (fun hn_ => (Kd.freshB (g := gb883) (o := .cells #[.slice Ao90 t869.length co90, .slice Ao95 t872.length co95, .int .u64 t875, .slice Ao96 t876.length co96, .int .u32 t879, .int .u32 t880] 63 (0, 0)) (bT_ BK883.out) k_ hn_))⟩)) (below_size beT_)); have HO893 := Aside0.mk (Kd.V_lower (Kd.V_mono (ok' := fun k_ => k_ ≠ gb834 ∧ k_ ≠ gb851 ∧ k_ ≠ gb868 ∧ k_ ≠ gb883) ho2 (fun k_ hk_ => ⟨Or.elim hk_ (fun hs_ => Or.elim hs_ (fun hs_ => hs_.1) (fun hs_ => Or.elim hs_ (fun hs_ => hs_.1) (fun hs_ => hs_.1))) (fun hn_ => (Kd.freshB (g := gb834) (o := .cells #[.slice A0_0 l0_0.length c0_0, .slice A0_1 l0_1.length c0_1, .int .u64 a0_2, .slice A0_3 l0_3.length c0_3, .int .u32 a0_4, .int .u32 a0_5] 63 (0, 0)) (bT_ BK834.out) k_ hn_)), Or.elim hk_ (fun hs_ => Or.elim hs_ (fun hs_ => hs_.2.1) (fun hs_ => Or.elim hs_ (fun hs_ => hs_.2.1) (fun hs_ => hs_.2.1))) (fun hn_ => (Kd.freshB (g := gb851) (o := .cells #[.slice Ao24 t838.length co24, .slice Ao27 t841.length co27, .int .u64 t844, .slice Ao28 t845.length co28, .int .u32 t848, .int .u32 t849] 63 (0, 0)) (bT_ BK851.out) k_ hn_)), Or.elim hk_ (fun hs_ => Or.elim hs_ (fun hs_ => hs_.2.2.1) (fun hs_ => Or.elim hs_ (fun hs_ => hs_.2.2.1) (fun hs_ => hs_.2.2.1))) (fun hn_ => (Kd.freshB (g := gb868) (o := .cells #[.slice Ao58 t855.length co58, .slice Ao62 t858.length co62, .int .u64 t861, .slice Ao63 t862.length co63, .int .u32 t865, .int .u32 t866] 63 (0, 0)) (bT_ BK868.out) k_ hn_)), Or.elim hk_ (fun hs_ => Or.elim hs_ (fun hs_ => hs_.2.2.2) (fun hs_ => Or.elim hs_ (fun hs_ => hs_.2.2.2) (fun hs_ => hs_.2.2.2))) (fun hn_ => (Kd.freshB (g := gb883) (o := .cells #[.slice Ao90 t869.length co90, .slice Ao95 t872.length co95, .int .u64 t875, .slice Ao96 t876.length co96, .int .u32 t879, .int .u32 t880] 63 (0, 0)) (bT_ BK883.out) k_ hn_))⟩)) (below_size beT_)); replace HO_852000 := vB_ HO_852000.out hb; replace HO_852001 := vB_ HO_852001.out hb; replace HO_852003 := vB_ HO_852003.out hb; replace HO_869000 := vB_ HO_869000.out hb; replace HO_869001 := vB_ HO_869001.out hb; replace HO_869003 := vB_ HO_869003.out hb; replace HO871 := vB_ HO871.out hb; replace HO874 := vB_ HO874.out hb; replace HO878 := vB_ HO878.out hb; replace BK834 := kB_ BK834 hb; replace BK851 := kB_ BK851 hb; replace BK868 := kB_ BK868 hb; replace BK883 := kB_ BK883 hb; replace HB := hB_ hb; (try clear hb); (try clear hb2); (try clear hk); (try clear hi); (try clear ho0); (try clear ho1); (try clear ho2)) | ((with_reducible refine gate_dst (N := 16) rfl ?_); (try (refine gate_guard (by rfl) ?_; dsimp only)); refine bE_ 16 #[.slice none 0 0, .slice none 0 0, .int .u64 0, .slice none 0 0, .int .u32 0, .int .u32 0] 63 ?_; intro gb897 hg w100 hbox hb; have BK897 := Aside0.mk hbox; have GW897 := geT_ w.heap.size hg; have GE897 := geT_ w.heap.size hg; have NB834_897 := nlT_ BK834.out hg; have NB897_834 := ngT_ BK834.out hg; have NB851_897 := nlT_ BK851.out hg; have NB897_851 := ngT_ BK851.out hg; have NB868_897 := nlT_ BK868.out hg; have NB897_868 := ngT_ BK868.out hg; have NB883_897 := nlT_ BK883.out hg; have NB897_883 := ngT_ BK883.out hg; replace HO_852000 := vE_ HO_852000.out hg hb; replace HO_852001 := vE_ HO_852001.out hg hb; replace HO_852003 := vE_ HO_852003.out hg hb; replace HO_869000 := vE_ HO_869000.out hg hb; replace HO_869001 := vE_ HO_869001.out hg hb; replace HO_869003 := vE_ HO_869003.out hg hb; replace HO871 := vE_ HO871.out hg hb; replace HO874 := vE_ HO874.out hg hb; replace HO878 := vE_ HO878.out hg hb; replace HO886 := vE_ HO886.out hg hb; replace HO889 := vE_ HO889.out hg hb; replace HO893 := vE_ HO893.out hg hb; replace BK834 := kB_ BK834 hb; replace BK851 := kB_ BK851 hb; replace BK868 := kB_ BK868 hb; replace BK883 := kB_ BK883 hb; replace HB := hB_ hb; clear hb hbox hg; obtain ⟨Ao101, co101, eo101⟩ := Kd.V_slice HO886.out; subst eo101; have hnb102 := NB897_834.out; have hnc102 := NB834_897.out; have hnb103 := NB897_851.out; have hnc103 := NB851_897.out; have hnb104 := NB897_868.out; have hnc104 := NB868_897.out; have hnb105 := NB897_883.out; have hnc105 := NB883_897.out; obtain ⟨hcz106_0, hcz106_1, hcz106_2, hcz106_3, hcz106_4, hcz106_5, hfz106_0, hfz106_1, hfz106_2, hfz106_3, hfz106_4, hfz106_5⟩ := b6_ BK897.out; obtain ⟨Ao107, co107, eo107⟩ := Kd.V_slice HO889.out; subst eo107; obtain ⟨Ao108, co108, eo108⟩ := Kd.V_slice HO893.out; subst eo108; obtain ⟨hcz109_0, hcz109_1, hcz109_2, hcz109_3, hcz109_4, hcz109_5, hfz109_0, hfz109_1, hfz109_2, hfz109_3, hfz109_4, hfz109_5⟩ := b6_ BK834.out) | (go_at_call 35; (with_reducible refine (ferryref06_Same.calls kj51 _ _ t884 _ _ t887 t890 _ _ t891 t894 t895 _ _ l0_0 _ _ l0_1 a0_2 _ _ l0_3 a0_4 a0_5 true _ ?side1 ?side2 ?side3 ?side4 ?side5 ?side6 ?side7 ?side8 ?side9 ?side10 ?side11 ?side12 A82.out).mono ?_); (case side1 => refine (Kd.V_reads' (e := 83) (base := w.heap.size) (ok := fun _ => True) (n := t884.length) (c := co101) ?_).2.2; exact (by (with_reducible repeat (first | apply Kd.V_alloc | apply Kd.V_drewN | apply Kd.V_drew)); exact (Kd.V_mono (Kd.V_far (p := ⟨gb897, 5, none⟩) (Kd.V_far (p := ⟨gb897, 4, none⟩) (Kd.V_far (p := ⟨gb897, 3, none⟩) (Kd.V_far (p := ⟨gb897, 2, none⟩) (Kd.V_far (p := ⟨gb897, 1, none⟩) (Kd.V_far (p := ⟨gb897, 0, none⟩) (Kd.V_mono HO886.out (fun k_ hk => (⟨hk, by first | exact hk.2 | exact hk.2.1 | exact hk.2.2 | omega | grind⟩ : _ ∧ k_ ≠ gb897))) (fun _ hk => by first | exact hk.2 | grind) (.slice Ao101 t884.length co101)) (fun _ hk => by first | exact hk.2 | grind) (.slice Ao107 t887.length co107)) (fun _ hk => by first | exact hk.2 | grind) (.int .u64 t890)) (fun _ hk => by first | exact hk.2 | grind) (.slice Ao108 t891.length co108)) (fun _ hk => by first | exact hk.2 | grind) (.int .u32 t894)) (fun _ hk => by first | exact hk.2 | grind) (.int .u32 t895)) (fun _ _ => trivial)))); (case side2 => exact (Kd.V_reads' HO886.out).2.1); (case side3 => refine (Kd.V_reads' (e := 88) (base := w.heap.size) (ok := fun _ => True) (n := t887.length) (c := co107) ?_).2.2; exact (by (with_reducible repeat (first | apply Kd.V_alloc | apply Kd.V_drewN | apply Kd.V_drew)); exact (Kd.V_mono (Kd.V_far (p := ⟨gb897, 5, none⟩) (Kd.V_far (p := ⟨gb897, 4, none⟩) (Kd.V_far (p := ⟨gb897, 3, none⟩) (Kd.V_far (p := ⟨gb897, 2, none⟩) (Kd.V_far (p := ⟨gb897, 1, none⟩) (Kd.V_far (p := ⟨gb897, 0, none⟩) (Kd.V_mono HO889.out (fun k_ hk => (⟨hk, by first | exact hk.2 | exact hk.2.1 | exact hk.2.2 | omega | grind⟩ : _ ∧ k_ ≠ gb897))) (fun _ hk => by first | exact hk.2 | grind) (.slice Ao101 t884.length co101)) (fun _ hk => by first | exact hk.2 | grind) (.slice Ao107 t887.length co107)) (fun _ hk => by first | exact hk.2 | grind) (.int .u64 t890)) (fun _ hk => by first | exact hk.2 | grind) (.slice Ao108 t891.length co108)) (fun _ hk => by first | exact hk.2 | grind) (.int .u32 t894)) (fun _ hk => by first | exact hk.2 | grind) (.int .u32 t895)) (fun _ _ => trivial)))); (case side4 => exact (Kd.V_reads' HO889.out).2.1); (case side5 => refine (Kd.V_reads' (e := 41) (base := w.heap.size) (ok := fun _ => True) (n := t891.length) (c := co108) ?_).2.2; exact (by (with_reducible repeat (first | apply Kd.V_alloc | apply Kd.V_drewN | apply Kd.V_drew)); exact (Kd.V_mono (Kd.V_far (p := ⟨gb897, 5, none⟩) (Kd.V_far (p := ⟨gb897, 4, none⟩) (Kd.V_far (p := ⟨gb897, 3, none⟩) (Kd.V_far (p := ⟨gb897, 2, none⟩) (Kd.V_far (p := ⟨gb897, 1, none⟩) (Kd.V_far (p := ⟨gb897, 0, none⟩) (Kd.V_mono HO893.out (fun k_ hk => (⟨hk, by first | exact hk.2 | exact hk.2.1 | exact hk.2.2 | omega | grind⟩ : _ ∧ k_ ≠ gb897))) (fun _ hk => by first | exact hk.2 | grind) (.slice Ao101 t884.length co101)) (fun _ hk => by first | exact hk.2 | grind) (.slice Ao107 t887.length co107)) (fun _ hk => by first | exact hk.2 | grind) (.int .u64 t890)) (fun _ hk => by first | exact hk.2 | grind) (.slice Ao108 t891.length co108)) (fun _ hk => by first | exact hk.2 | grind) (.int .u32 t894)) (fun _ hk => by first | exact hk.2 | grind) (.int .u32 t895)) (fun _ _ => trivial)))); (case side6 => exact (Kd.V_reads' HO893.out).2.1); (case side7 => exact Kd.C_below HR0_0.out beT_); (case side8 => exact HC0_0.out); (case side9 => exact Kd.C_below HR0_1.out beT_); (case side10 => exact HC0_1.out); (case side11 => exact Kd.C_below HR0_3.out beT_); (case side12 => exact HC0_3.out); rintro e w110 ⟨rfl, hb⟩; replace HO_852000 := Aside0.mk (Kd.V_below (by (with_reducible repeat (first | apply Kd.V_alloc | apply Kd.V_drewN | apply Kd.V_drew)); exact (Kd.V_mono (Kd.V_far (p := ⟨gb897, 5, none⟩) (Kd.V_far (p := ⟨gb897, 4, none⟩) (Kd.V_far (p := ⟨gb897, 3, none⟩) (Kd.V_far (p := ⟨gb897, 2, none⟩) (Kd.V_far (p := ⟨gb897, 1, none⟩) (Kd.V_far (p := ⟨gb897, 0, none⟩) (Kd.V_mono HO_852000.out (fun k_ hk => (⟨hk, by first | exact hk.2 | exact hk.2.1 | exact hk.2.2 | omega | grind⟩ : _ ∧ k_ ≠ gb897))) (fun _ hk => by first | exact hk.2 | grind) (.slice Ao101 t884.length co101)) (fun _ hk => by first | exact hk.2 | grind) (.slice Ao107 t887.length co107)) (fun _ hk => by first | exact hk.2 | grind) (.int .u64 t890)) (fun _ hk => by first | exact hk.2 | grind) (.slice Ao108 t891.length co108)) (fun _ hk => by first | exact hk.2 | grind) (.int .u32 t894)) (fun _ hk => by first | exact hk.2 | grind) (.int .u32 t895)) (fun _ h_ => h_.1))) hb); replace HO_852001 := Aside0.mk (Kd.V_below (by (with_reducible repeat (first | apply Kd.V_alloc | apply Kd.V_drewN | apply Kd.V_drew)); exact (Kd.V_mono (Kd.V_far (p := ⟨gb897, 5, none⟩) (Kd.V_far (p := ⟨gb897, 4, none⟩) (Kd.V_far (p := ⟨gb897, 3, none⟩) (Kd.V_far (p := ⟨gb897, 2, none⟩) (Kd.V_far (p := ⟨gb897, 1, none⟩) (Kd.V_far (p := ⟨gb897, 0, none⟩) (Kd.V_mono HO_852001.out (fun k_ hk => (⟨hk, by first | exact hk.2 | exact hk.2.1 | exact hk.2.2 | omega | grind⟩ : _ ∧ k_ ≠ gb897))) (fun _ hk => by first | exact hk.2 | grind) (.slice Ao101 t884.length co101)) (fun _ hk => by first | exact hk.2 | grind) (.slice Ao107 t887.length co107)) (fun _ hk => by first | exact hk.2 | grind) (.int .u64 t890)) (fun _ hk => by first | exact hk.2 | grind) (.slice Ao108 t891.length co108)) (fun _ hk => by first | exact hk.2 | grind) (.int .u32 t894)) (fun _ hk => by first | exact hk.2 | grind) (.int .u32 t895)) (fun _ h_ => h_.1))) hb); replace HO_852003 := Aside0.mk (Kd.V_below (by (with_reducible repeat (first | apply Kd.V_alloc | apply Kd.V_drewN | apply Kd.V_drew)); exact (Kd.V_mono (Kd.V_far (p := ⟨gb897, 5, none⟩) (Kd.V_far (p := ⟨gb897, 4, none⟩) (Kd.V_far (p := ⟨gb897, 3, none⟩) (Kd.V_far (p := ⟨gb897, 2, none⟩) (Kd.V_far (p := ⟨gb897, 1, none⟩) (Kd.V_far (p := ⟨gb897, 0, none⟩) (Kd.V_mono HO_852003.out (fun k_ hk => (⟨hk, by first | exact hk.2 | exact hk.2.1 | exact hk.2.2 | omega | grind⟩ : _ ∧ k_ ≠ gb897))) (fun _ hk => by first | exact hk.2 | grind) (.slice Ao101 t884.length co101)) (fun _ hk => by first | exact hk.2 | grind) (.slice Ao107 t887.length co107)) (fun _ hk => by first | exact hk.2 | grind) (.int .u64 t890)) (fun _ hk => by first | exact hk.2 | grind) (.slice Ao108 t891.length co108)) (fun _ hk => by first | exact hk.2 | grind) (.int .u32 t894)) (fun _ hk => by first | exact hk.2 | grind) (.int .u32 t895)) (fun _ h_ => h_.1))) hb); replace HO_869000 := Aside0.mk (Kd.V_below (by (with_reducible repeat (first | apply Kd.V_alloc | apply Kd.V_drewN | apply Kd.V_drew)); exact (Kd.V_mono (Kd.V_far (p := ⟨gb897, 5, none⟩) (Kd.V_far (p := ⟨gb897, 4, none⟩) (Kd.V_far (p := ⟨gb897, 3, none⟩) (Kd.V_far (p := ⟨gb897, 2, none⟩) (Kd.V_far (p := ⟨gb897, 1, none⟩) (Kd.V_far (p := ⟨gb897, 0, none⟩) (Kd.V_mono HO_869000.out (fun k_ hk => (⟨hk, by first | exact hk.2 | exact hk.2.1 | exact hk.2.2 | omega | grind⟩ : _ ∧ k_ ≠ gb897))) (fun _ hk => by first | exact hk.2 | grind) (.slice Ao101 t884.length co101)) (fun _ hk => by first | exact hk.2 | grind) (.slice Ao107 t887.length co107)) (fun _ hk => by first | exact hk.2 | grind) (.int .u64 t890)) (fun _ hk => by first | exact hk.2 | grind) (.slice Ao108 t891.length co108)) (fun _ hk => by first | exact hk.2 | grind) (.int .u32 t894)) (fun _ hk => by first | exact hk.2 | grind) (.int .u32 t895)) (fun _ h_ => h_.1))) hb); replace HO_869001 := Aside0.mk (Kd.V_below (by (with_reducible repeat (first | apply Kd.V_alloc | apply Kd.V_drewN | apply Kd.V_drew)); exact (Kd.V_mono (Kd.V_far (p := ⟨gb897, 5, none⟩) (Kd.V_far (p := ⟨gb897, 4, none⟩) (Kd.V_far (p := ⟨gb897, 3, none⟩) (Kd.V_far (p := ⟨gb897, 2, none⟩) (Kd.V_far (p := ⟨gb897, 1, none⟩) (Kd.V_far (p := ⟨gb897, 0, none⟩) (Kd.V_mono HO_869001.out (fun k_ hk => (⟨hk, by first | exact hk.2 | exact hk.2.1 | exact hk.2.2 | omega | grind⟩ : _ ∧ k_ ≠ gb897))) (fun _ hk => by first | exact hk.2 | grind) (.slice Ao101 t884.length co101)) (fun _ hk => by first | exact hk.2 | grind) (.slice Ao107 t887.length co107)) (fun _ hk => by first | exact hk.2 | grind) (.int .u64 t890)) (fun _ hk => by first | exact hk.2 | grind) (.slice Ao108 t891.length co108)) (fun _ hk => by first | exact hk.2 | grind) (.int .u32 t894)) (fun _ hk => by first | exact hk.2 | grind) (.int .u32 t895)) (fun _ h_ => h_.1))) hb); replace HO_869003 := Aside0.mk (Kd.V_below (by (with_reducible repeat (first | apply Kd.V_alloc | apply Kd.V_drewN | apply Kd.V_drew)); exact (Kd.V_mono (Kd.V_far (p := ⟨gb897, 5, none⟩) (Kd.V_far (p := ⟨gb897, 4, none⟩) (Kd.V_far (p := ⟨gb897, 3, none⟩) (Kd.V_far (p := ⟨gb897, 2, none⟩) (Kd.V_far (p := ⟨gb897, 1, none⟩) (Kd.V_far (p := ⟨gb897, 0, none⟩) (Kd.V_mono HO_869003.out (fun k_ hk => (⟨hk, by first | exact hk.2 | exact hk.2.1 | exact hk.2.2 | omega | grind⟩ : _ ∧ k_ ≠ gb897))) (fun _ hk => by first | exact hk.2 | grind) (.slice Ao101 t884.length co101)) (fun _ hk => by first | exact hk.2 | grind) (.slice Ao107 t887.length co107)) (fun _ hk => by first | exact hk.2 | grind) (.int .u64 t890)) (fun _ hk => by first | exact hk.2 | grind) (.slice Ao108 t891.length co108)) (fun _ hk => by first | exact hk.2 | grind) (.int .u32 t894)) (fun _ hk => by first | exact hk.2 | grind) (.int .u32 t895)) (fun _ h_ => h_.1))) hb); replace HO871 := Aside0.mk (Kd.V_below (by (with_reducible repeat (first | apply Kd.V_alloc | apply Kd.V_drewN | apply Kd.V_drew)); exact (Kd.V_mono (Kd.V_far (p := ⟨gb897, 5, none⟩) (Kd.V_far (p := ⟨gb897, 4, none⟩) (Kd.V_far (p := ⟨gb897, 3, none⟩) (Kd.V_far (p := ⟨gb897, 2, none⟩) (Kd.V_far (p := ⟨gb897, 1, none⟩) (Kd.V_far (p := ⟨gb897, 0, none⟩) (Kd.V_mono HO871.out (fun k_ hk => (⟨hk, by first | exact hk.2 | exact hk.2.1 | exact hk.2.2 | omega | grind⟩ : _ ∧ k_ ≠ gb897))) (fun _ hk => by first | exact hk.2 | grind) (.slice Ao101 t884.length co101)) (fun _ hk => by first | exact hk.2 | grind) (.slice Ao107 t887.length co107)) (fun _ hk => by first | exact hk.2 | grind) (.int .u64 t890)) (fun _ hk => by first | exact hk.2 | grind) (.slice Ao108 t891.length co108)) (fun _ hk => by first | exact hk.2 | grind) (.int .u32 t894)) (fun _ hk => by first | exact hk.2 | grind) (.int .u32 t895)) (fun _ h_ => h_.1))) hb); replace HO874 := Aside0.mk (Kd.V_below (by (with_reducible repeat (first | apply Kd.V_alloc | apply Kd.V_drewN | apply Kd.V_drew)); exact (Kd.V_mono (Kd.V_far (p := ⟨gb897, 5, none⟩) (Kd.V_far (p := ⟨gb897, 4, none⟩) (Kd.V_far (p := ⟨gb897, 3, none⟩) (Kd.V_far (p := ⟨gb897, 2, none⟩) (Kd.V_far (p := ⟨gb897, 1, none⟩) (Kd.V_far (p := ⟨gb897, 0, none⟩) (Kd.V_mono HO874.out (fun k_ hk => (⟨hk, by first | exact hk.2 | exact hk.2.1 | exact hk.2.2 | omega | grind⟩ : _ ∧ k_ ≠ gb897))) (fun _ hk => by first | exact hk.2 | grind) (.slice Ao101 t884.length co101)) (fun _ hk => by first | exact hk.2 | grind) (.slice Ao107 t887.length co107)) (fun _ hk => by first | exact hk.2 | grind) (.int .u64 t890)) (fun _ hk => by first | exact hk.2 | grind) (.slice Ao108 t891.length co108)) (fun _ hk => by first | exact hk.2 | grind) (.int .u32 t894)) (fun _ hk => by first | exact hk.2 | grind) (.int .u32 t895)) (fun _ h_ => h_.1))) hb); replace HO878 := Aside0.mk (Kd.V_below (by (with_reducible repeat (first | apply Kd.V_alloc | apply Kd.V_drewN | apply Kd.V_drew)); exact (Kd.V_mono (Kd.V_far (p := ⟨gb897, 5, none⟩) (Kd.V_far (p := ⟨gb897, 4, none⟩) (Kd.V_far (p := ⟨gb897, 3, none⟩) (Kd.V_far (p := ⟨gb897, 2, none⟩) (Kd.V_far (p := ⟨gb897, 1, none⟩) (Kd.V_far (p := ⟨gb897, 0, none⟩) (Kd.V_mono HO878.out (fun k_ hk => (⟨hk, by first | exact hk.2 | exact hk.2.1 | exact hk.2.2 | omega | grind⟩ : _ ∧ k_ ≠ gb897))) (fun _ hk => by first | exact hk.2 | grind) (.slice Ao101 t884.length co101)) (fun _ hk => by first | exact hk.2 | grind) (.slice Ao107 t887.length co107)) (fun _ hk => by first | exact hk.2 | grind) (.int .u64 t890)) (fun _ hk => by first | exact hk.2 | grind) (.slice Ao108 t891.length co108)) (fun _ hk => by first | exact hk.2 | grind) (.int .u32 t894)) (fun _ hk => by first | exact hk.2 | grind) (.int .u32 t895)) (fun _ h_ => h_.1))) hb); replace HO886 := Aside0.mk (Kd.V_below (by (with_reducible repeat (first | apply Kd.V_alloc | apply Kd.V_drewN | apply Kd.V_drew)); exact (Kd.V_mono (Kd.V_far (p := ⟨gb897, 5, none⟩) (Kd.V_far (p := ⟨gb897, 4, none⟩) (Kd.V_far (p := ⟨gb897, 3, none⟩) (Kd.V_far (p := ⟨gb897, 2, none⟩) (Kd.V_far (p := ⟨gb897, 1, none⟩) (Kd.V_far (p := ⟨gb897, 0, none⟩) (Kd.V_mono HO886.out (fun k_ hk => (⟨hk, by first | exact hk.2 | exact hk.2.1 | exact hk.2.2 | omega | grind⟩ : _ ∧ k_ ≠ gb897))) (fun _ hk => by first | exact hk.2 | grind) (.slice Ao101 t884.length co101)) (fun _ hk => by first | exact hk.2 | grind) (.slice Ao107 t887.length co107)) (fun _ hk => by first | exact hk.2 | grind) (.int .u64 t890)) (fun _ hk => by first | exact hk.2 | grind) (.slice Ao108 t891.length co108)) (fun _ hk => by first | exact hk.2 | grind) (.int .u32 t894)) (fun _ hk => by first | exact hk.2 | grind) (.int .u32 t895)) (fun _ h_ => h_.1))) hb); replace HO889 := Aside0.mk (Kd.V_below (by (with_reducible repeat (first | apply Kd.V_alloc | apply Kd.V_drewN | apply Kd.V_drew)); exact (Kd.V_mono (Kd.V_far (p := ⟨gb897, 5, none⟩) (Kd.V_far (p := ⟨gb897, 4, none⟩) (Kd.V_far (p := ⟨gb897, 3, none⟩) (Kd.V_far (p := ⟨gb897, 2, none⟩) (Kd.V_far (p := ⟨gb897, 1, none⟩) (Kd.V_far (p := ⟨gb897, 0, none⟩) (Kd.V_mono HO889.out (fun k_ hk => (⟨hk, by first | exact hk.2 | exact hk.2.1 | exact hk.2.2 | omega | grind⟩ : _ ∧ k_ ≠ gb897))) (fun _ hk => by first | exact hk.2 | grind) (.slice Ao101 t884.length co101)) (fun _ hk => by first | exact hk.2 | grind) (.slice Ao107 t887.length co107)) (fun _ hk => by first | exact hk.2 | grind) (.int .u64 t890)) (fun _ hk => by first | exact hk.2 | grind) (.slice Ao108 t891.length co108)) (fun _ hk => by first | exact hk.2 | grind) (.int .u32 t894)) (fun _ hk => by first | exact hk.2 | grind) (.int .u32 t895)) (fun _ h_ => h_.1))) hb); replace HO893 := Aside0.mk (Kd.V_below (by (with_reducible repeat (first | apply Kd.V_alloc | apply Kd.V_drewN | apply Kd.V_drew)); exact (Kd.V_mono (Kd.V_far (p := ⟨gb897, 5, none⟩) (Kd.V_far (p := ⟨gb897, 4, none⟩) (Kd.V_far (p := ⟨gb897, 3, none⟩) (Kd.V_far (p := ⟨gb897, 2, none⟩) (Kd.V_far (p := ⟨gb897, 1, none⟩) (Kd.V_far (p := ⟨gb897, 0, none⟩) (Kd.V_mono HO893.out (fun k_ hk => (⟨hk, by first | exact hk.2 | exact hk.2.1 | exact hk.2.2 | omega | grind⟩ : _ ∧ k_ ≠ gb897))) (fun _ hk => by first | exact hk.2 | grind) (.slice Ao101 t884.length co101)) (fun _ hk => by first | exact hk.2 | grind) (.slice Ao107 t887.length co107)) (fun _ hk => by first | exact hk.2 | grind) (.int .u64 t890)) (fun _ hk => by first | exact hk.2 | grind) (.slice Ao108 t891.length co108)) (fun _ hk => by first | exact hk.2 | grind) (.int .u32 t894)) (fun _ hk => by first | exact hk.2 | grind) (.int .u32 t895)) (fun _ h_ => h_.1))) hb); replace BK834 := kB_ BK834 hb; replace BK851 := kB_ BK851 hb; replace BK868 := kB_ BK868 hb; replace BK883 := kB_ BK883 hb; replace BK897 := Aside0.mk (blk_below (g := gb897) (o := .cells #[.slice Ao101 t884.length co101, .slice Ao107 t887.length co107, .int .u64 t890, .slice Ao108 t891.length co108, .int .u32 t894, .int .u32 t895] 63 (0, 0)) (kP_ BK897.out) hb); replace HB := hB_ hb; (try clear hb); (try clear hb2); (try clear hk); (try clear hi)) | (go_at_call 33; (with_reducible refine (ferrylaw06_awake.calls kj51  t899 _ A84.out).mono ?_); rintro e w111 ⟨rfl, hb⟩; replace HO_852000 := vB_ HO_852000.out hb; replace HO_852001 := vB_ HO_852001.out hb; replace HO_852003 := vB_ HO_852003.out hb; replace HO_869000 := vB_ HO_869000.out hb; replace HO_869001 := vB_ HO_869001.out hb; replace HO_869003 := vB_ HO_869003.out hb; replace HO871 := vB_ HO871.out hb; replace HO874 := vB_ HO874.out hb; replace HO878 := vB_ HO878.out hb; replace HO886 := vB_ HO886.out hb; replace HO889 := vB_ HO889.out hb; replace HO893 := vB_ HO893.out hb; replace BK834 := kB_ BK834 hb; replace BK851 := kB_ BK851 hb; replace BK868 := kB_ BK868 hb; replace BK883 := kB_ BK883 hb; replace BK897 := kB_ BK897 hb; replace HB := hB_ hb; (try clear hb); (try clear hb2); (try clear hk); (try clear hi)))
                    go_ret
                    exact ⟨r3_, beT_⟩
                  replace c83 := Bool.eq_false_iff.mpr c83
                  subst c83
                  replace H := hN_ H
                  exact absurd H (by simp)
                rw [if_neg c81] at H
                exact absurd H (by simp)
              rw [if_neg c79] at H
              have c79b0 : (t882 == 0) = false := beq_eq_false_iff_ne.mpr c79
              have c79b1 : (t882 != 0) = true := bne_iff_ne.mpr c79
              replace H := Option.bind_eq_some_iff.mp H
              obtain ⟨t900, A1120, H⟩ := H
              have A112 := Aside0.mk A1120
              clear A1120
              obtain rfl := Option.some.inj H
              have hnb113 := NB834_851.out
              have hnc113 := NB851_834.out
              have hnb114 := NB834_868.out
              have hnc114 := NB868_834.out
              obtain ⟨hcz115_0, hcz115_1, hcz115_2, hcz115_3, hcz115_4, hcz115_5, hfz115_0, hfz115_1, hfz115_2, hfz115_3, hfz115_4, hfz115_5⟩ := b6_ BK834.out
              go_wp2_with (first | ((with_reducible refine gate_callee (f := 36) rfl ?_); refine gL_ (some 85) Try.func36 #[.agg #[.slice A0_0 l0_0.length c0_0, .slice A0_1 l0_1.length c0_1, .int .u64 a0_2, .slice A0_3 l0_3.length c0_3, .int .u32 a0_4, .int .u32 a0_5], .int .u32 0, .int .u32 a2, .int .i64 a3, .bool false] ?_; (with_reducible refine (gmap_Mmap.calls kj51 (fun k_ => k_ < w.heap.size) _ _ l0_0 (fun k_ => k_ < w.heap.size) _ _ l0_1 a0_2 (fun k_ => k_ < w.heap.size) _ _ l0_3 a0_4 a0_5 0 a2 a3 false t869 t872 t875 t876 t879 t880 t881 t882 _ ?side1 ?side2 ?side3 A78.out).mono ?_); (case side1 => exact Kd.V_mk HC0_0.out (Kd.F_below (Kd.C_F k83_heap HR0_0.out) beT_)); (case side2 => exact Kd.V_mk HC0_1.out (Kd.F_below (Kd.C_F k88_heap HR0_1.out) beT_)); (case side3 => exact Kd.V_mk HC0_3.out (Kd.F_below (Kd.C_F k41_heap HR0_3.out) beT_)); rintro e w116 ⟨v870, v873, v877, rfl, ho0, ho1, ho2, hb⟩; refine ⟨_, rfl, ?_⟩; have HO871 := Aside0.mk (Kd.V_lower (Kd.V_mono (ok' := fun k_ => k_ ≠ gb834 ∧ k_ ≠ gb851 ∧ k_ ≠ gb868) ho0 (fun k_ hk_ => ⟨Or.elim hk_ (fun hs_ => Or.elim hs_ (fun hs_ => fun e_ => Nat.not_le.2 hs_ (by rw [e_]; exact GW834.out)) (fun hs_ => Or.elim hs_ (fun hs_ => fun e_ => Nat.not_le.2 hs_ (by rw [e_]; exact GW834.out)) (fun hs_ => fun e_ => Nat.not_le.2 hs_ (by rw [e_]; exact GW834.out)))) (fun hn_ => (Kd.freshB (g := gb834) (o := .cells #[.slice A0_0 l0_0.length c0_0, .slice A0_1 l0_1.length c0_1, .int .u64 a0_2, .slice A0_3 l0_3.length c0_3, .int .u32 a0_4, .int .u32 a0_5] 63 (0, 0)) (bT_ BK834.out) k_ hn_)), Or.elim hk_ (fun hs_ => Or.elim hs_ (fun hs_ => fun e_ => Nat.not_le.2 hs_ (by rw [e_]; exact GW851.out)) (fun hs_ => Or.elim hs_ (fun hs_ => fun e_ => Nat.not_le.2 hs_ (by rw [e_]; exact GW851.out)) (fun hs_ => fun e_ => Nat.not_le.2 hs_ (by rw [e_]; exact GW851.out)))) (fun hn_ => (Kd.freshB (g := gb851) (o := .cells #[.slice Ao24 t838.length co24, .slice Ao27 t841.length co27, .int .u64 t844, .slice Ao28 t845.length co28, .int .u32 t848, .int .u32 t849] 63 (0, 0)) (bT_ BK851.out) k_ hn_)), Or.elim hk_ (fun hs_ => Or.elim hs_ (fun hs_ => fun e_ => Nat.not_le.2 hs_ (by rw [e_]; exact GW868.out)) (fun hs_ => Or.elim hs_ (fun hs_ => fun e_ => Nat.not_le.2 hs_ (by rw [e_]; exact GW868.out)) (fun hs_ => fun e_ => Nat.not_le.2 hs_ (by rw [e_]; exact GW868.out)))) (fun hn_ => (Kd.freshB (g := gb868) (o := .cells #[.slice Ao58 t855.length co58, .slice Ao62 t858.length co62, .int .u64 t861, .slice Ao63 t862.length co63, .int .u32 t865, .int .u32 t866] 63 (0, 0)) (bT_ BK868.out) k_ hn_))⟩)) (below_size beT_)); have HO874 := Aside0.mk (Kd.V_lower (Kd.V_mono (ok' := fun k_ => k_ ≠ gb834 ∧ k_ ≠ gb851 ∧ k_ ≠ gb868) ho1 (fun k_ hk_ => ⟨Or.elim hk_ (fun hs_ => Or.elim hs_ (fun hs_ => fun e_ => Nat.not_le.2 hs_ (by rw [e_]; exact GW834.out)) (fun hs_ => Or.elim hs_ (fun hs_ => fun e_ => Nat.not_le.2 hs_ (by rw [e_]; exact GW834.out)) (fun hs_ => fun e_ => Nat.not_le.2 hs_ (by rw [e_]; exact GW834.out)))) (fun hn_ => (Kd.freshB (g := gb834) (o := .cells #[.slice A0_0 l0_0.length c0_0, .slice A0_1 l0_1.length c0_1, .int .u64 a0_2, .slice A0_3 l0_3.length c0_3, .int .u32 a0_4, .int .u32 a0_5] 63 (0, 0)) (bT_ BK834.out) k_ hn_)), Or.elim hk_ (fun hs_ => Or.elim hs_ (fun hs_ => fun e_ => Nat.not_le.2 hs_ (by rw [e_]; exact GW851.out)) (fun hs_ => Or.elim hs_ (fun hs_ => fun e_ => Nat.not_le.2 hs_ (by rw [e_]; exact GW851.out)) (fun hs_ => fun e_ => Nat.not_le.2 hs_ (by rw [e_]; exact GW851.out)))) (fun hn_ => (Kd.freshB (g := gb851) (o := .cells #[.slice Ao24 t838.length co24, .slice Ao27 t841.length co27, .int .u64 t844, .slice Ao28 t845.length co28, .int .u32 t848, .int .u32 t849] 63 (0, 0)) (bT_ BK851.out) k_ hn_)), Or.elim hk_ (fun hs_ => Or.elim hs_ (fun hs_ => fun e_ => Nat.not_le.2 hs_ (by rw [e_]; exact GW868.out)) (fun hs_ => Or.elim hs_ (fun hs_ => fun e_ => Nat.not_le.2 hs_ (by rw [e_]; exact GW868.out)) (fun hs_ => fun e_ => Nat.not_le.2 hs_ (by rw [e_]; exact GW868.out)))) (fun hn_ => (Kd.freshB (g := gb868) (o := .cells #[.slice Ao58 t855.length co58, .slice Ao62 t858.length co62, .int .u64 t861, .slice Ao63 t862.length co63, .int .u32 t865, .int .u32 t866] 63 (0, 0)) (bT_ BK868.out) k_ hn_))⟩)) (below_size beT_)); have HO878 := Aside0.mk (Kd.V_lower (Kd.V_mono (ok' := fun k_ => k_ ≠ gb834 ∧ k_ ≠ gb851 ∧ k_ ≠ gb868) ho2 (fun k_ hk_ => ⟨Or.elim hk_ (fun hs_ => Or.elim hs_ (fun hs_ => fun e_ => Nat.not_le.2 hs_ (by rw [e_]; exact GW834.out)) (fun hs_ => Or.elim hs_ (fun hs_ => fun e_ => Nat.not_le.2 hs_ (by rw [e_]; exact GW834.out)) (fun hs_ => fun e_ => Nat.not_le.2 hs_ (by rw [e_]; exact GW834.out)))) (fun hn_ => (Kd.freshB (g := gb834) (o := .cells #[.slice A0_0 l0_0.length c0_0, .slice A0_1 l0_1.length c0_1, .int .u64 a0_2, .slice A0_3 l0_3.length c0_3, .int .u32 a0_4, .int .u32 a0_5] 63 (0, 0)) (bT_ BK834.out) k_ hn_)), Or.elim hk_ (fun hs_ => Or.elim hs_ (fun hs_ => fun e_ => Nat.not_le.2 hs_ (by rw [e_]; exact GW851.out)) (fun hs_ => Or.elim hs_ (fun hs_ => fun e_ => Nat.not_le.2 hs_ (by rw [e_]; exact GW851.out)) (fun hs_ => fun e_ => Nat.not_le.2 hs_ (by rw [e_]; exact GW851.out)))) (fun hn_ => (Kd.freshB (g := gb851) (o := .cells #[.slice Ao24 t838.length co24, .slice Ao27 t841.length co27, .int .u64 t844, .slice Ao28 t845.length co28, .int .u32 t848, .int .u32 t849] 63 (0, 0)) (bT_ BK851.out) k_ hn_)), Or.elim hk_ (fun hs_ => Or.elim hs_ (fun hs_ => fun e_ => Nat.not_le.2 hs_ (by rw [e_]; exact GW868.out)) (fun hs_ => Or.elim hs_ (fun hs_ => fun e_ => Nat.not_le.2 hs_ (by rw [e_]; exact GW868.out)) (fun hs_ => fun e_ => Nat.not_le.2 hs_ (by rw [e_]; exact GW868.out)))) (fun hn_ => (Kd.freshB (g := gb868) (o := .cells #[.slice Ao58 t855.length co58, .slice Ao62 t858.length co62, .int .u64 t861, .slice Ao63 t862.length co63, .int .u32 t865, .int .u32 t866] 63 (0, 0)) (bT_ BK868.out) k_ hn_))⟩)) (below_size beT_)); replace HO_852000 := vB_ HO_852000.out hb; replace HO_852001 := vB_ HO_852001.out hb; replace HO_852003 := vB_ HO_852003.out hb; replace HO_869000 := vB_ HO_869000.out hb; replace HO_869001 := vB_ HO_869001.out hb; replace HO_869003 := vB_ HO_869003.out hb; replace BK834 := kB_ BK834 hb; replace BK851 := kB_ BK851 hb; replace BK868 := kB_ BK868 hb; replace HB := hB_ hb; (try clear hb); (try clear hb2); (try clear hk); (try clear hi); (try clear ho0); (try clear ho1); (try clear ho2)) | ((with_reducible refine gate_dst (N := 13) rfl ?_); (try (refine gate_guard (by rfl) ?_; dsimp only)); refine bE_ 13 #[.slice none 0 0, .slice none 0 0, .int .u64 0, .slice none 0 0, .int .u32 0, .int .u32 0] 63 ?_; intro gb883 hg w117 hbox hb; have BK883 := Aside0.mk hbox; have GW883 := geT_ w.heap.size hg; have GE883 := geT_ w.heap.size hg; have NB834_883 := nlT_ BK834.out hg; have NB883_834 := ngT_ BK834.out hg; have NB851_883 := nlT_ BK851.out hg; have NB883_851 := ngT_ BK851.out hg; have NB868_883 := nlT_ BK868.out hg; have NB883_868 := ngT_ BK868.out hg; replace HO_852000 := vE_ HO_852000.out hg hb; replace HO_852001 := vE_ HO_852001.out hg hb; replace HO_852003 := vE_ HO_852003.out hg hb; replace HO_869000 := vE_ HO_869000.out hg hb; replace HO_869001 := vE_ HO_869001.out hg hb; replace HO_869003 := vE_ HO_869003.out hg hb; replace HO871 := vE_ HO871.out hg hb; replace HO874 := vE_ HO874.out hg hb; replace HO878 := vE_ HO878.out hg hb; replace BK834 := kB_ BK834 hb; replace BK851 := kB_ BK851 hb; replace BK868 := kB_ BK868 hb; replace HB := hB_ hb; clear hb hbox hg; obtain ⟨Ao118, co118, eo118⟩ := Kd.V_slice HO871.out; subst eo118; have hnb119 := NB883_834.out; have hnc119 := NB834_883.out; have hnb120 := NB883_851.out; have hnc120 := NB851_883.out; have hnb121 := NB883_868.out; have hnc121 := NB868_883.out; obtain ⟨hcz122_0, hcz122_1, hcz122_2, hcz122_3, hcz122_4, hcz122_5, hfz122_0, hfz122_1, hfz122_2, hfz122_3, hfz122_4, hfz122_5⟩ := b6_ BK883.out; obtain ⟨Ao123, co123, eo123⟩ := Kd.V_slice HO874.out; subst eo123; obtain ⟨Ao124, co124, eo124⟩ := Kd.V_slice HO878.out; subst eo124) | ((with_reducible refine gate_callee (f := 33) rfl ?_); refine gL_ (some 91) Try.func33 #[] ?_; (with_reducible refine (ferrylaw06_awake.calls kj51  t900 _ A112.out).mono ?_); rintro e w125 ⟨rfl, hb⟩; refine ⟨_, rfl, ?_⟩; replace HO_852000 := Aside0.mk (Kd.V_below (by (with_reducible repeat (first | apply Kd.V_alloc | apply Kd.V_drewN | apply Kd.V_drew)); exact (Kd.V_mono (Kd.V_far (p := ⟨gb883, 5, none⟩) (Kd.V_far (p := ⟨gb883, 4, none⟩) (Kd.V_far (p := ⟨gb883, 3, none⟩) (Kd.V_far (p := ⟨gb883, 2, none⟩) (Kd.V_far (p := ⟨gb883, 1, none⟩) (Kd.V_far (p := ⟨gb883, 0, none⟩) (Kd.V_mono HO_852000.out (fun k_ hk => (⟨hk, by first | exact hk.2 | exact hk.2.1 | exact hk.2.2 | omega | grind⟩ : _ ∧ k_ ≠ gb883))) (fun _ hk => by first | exact hk.2 | grind) (.slice Ao118 t869.length co118)) (fun _ hk => by first | exact hk.2 | grind) (.slice Ao123 t872.length co123)) (fun _ hk => by first | exact hk.2 | grind) (.int .u64 t875)) (fun _ hk => by first | exact hk.2 | grind) (.slice Ao124 t876.length co124)) (fun _ hk => by first | exact hk.2 | grind) (.int .u32 t879)) (fun _ hk => by first | exact hk.2 | grind) (.int .u32 t880)) (fun _ h_ => h_.1))) hb); replace HO_852001 := Aside0.mk (Kd.V_below (by (with_reducible repeat (first | apply Kd.V_alloc | apply Kd.V_drewN | apply Kd.V_drew)); exact (Kd.V_mono (Kd.V_far (p := ⟨gb883, 5, none⟩) (Kd.V_far (p := ⟨gb883, 4, none⟩) (Kd.V_far (p := ⟨gb883, 3, none⟩) (Kd.V_far (p := ⟨gb883, 2, none⟩) (Kd.V_far (p := ⟨gb883, 1, none⟩) (Kd.V_far (p := ⟨gb883, 0, none⟩) (Kd.V_mono HO_852001.out (fun k_ hk => (⟨hk, by first | exact hk.2 | exact hk.2.1 | exact hk.2.2 | omega | grind⟩ : _ ∧ k_ ≠ gb883))) (fun _ hk => by first | exact hk.2 | grind) (.slice Ao118 t869.length co118)) (fun _ hk => by first | exact hk.2 | grind) (.slice Ao123 t872.length co123)) (fun _ hk => by first | exact hk.2 | grind) (.int .u64 t875)) (fun _ hk => by first | exact hk.2 | grind) (.slice Ao124 t876.length co124)) (fun _ hk => by first | exact hk.2 | grind) (.int .u32 t879)) (fun _ hk => by first | exact hk.2 | grind) (.int .u32 t880)) (fun _ h_ => h_.1))) hb); replace HO_852003 := Aside0.mk (Kd.V_below (by (with_reducible repeat (first | apply Kd.V_alloc | apply Kd.V_drewN | apply Kd.V_drew)); exact (Kd.V_mono (Kd.V_far (p := ⟨gb883, 5, none⟩) (Kd.V_far (p := ⟨gb883, 4, none⟩) (Kd.V_far (p := ⟨gb883, 3, none⟩) (Kd.V_far (p := ⟨gb883, 2, none⟩) (Kd.V_far (p := ⟨gb883, 1, none⟩) (Kd.V_far (p := ⟨gb883, 0, none⟩) (Kd.V_mono HO_852003.out (fun k_ hk => (⟨hk, by first | exact hk.2 | exact hk.2.1 | exact hk.2.2 | omega | grind⟩ : _ ∧ k_ ≠ gb883))) (fun _ hk => by first | exact hk.2 | grind) (.slice Ao118 t869.length co118)) (fun _ hk => by first | exact hk.2 | grind) (.slice Ao123 t872.length co123)) (fun _ hk => by first | exact hk.2 | grind) (.int .u64 t875)) (fun _ hk => by first | exact hk.2 | grind) (.slice Ao124 t876.length co124)) (fun _ hk => by first | exact hk.2 | grind) (.int .u32 t879)) (fun _ hk => by first | exact hk.2 | grind) (.int .u32 t880)) (fun _ h_ => h_.1))) hb); replace HO_869000 := Aside0.mk (Kd.V_below (by (with_reducible repeat (first | apply Kd.V_alloc | apply Kd.V_drewN | apply Kd.V_drew)); exact (Kd.V_mono (Kd.V_far (p := ⟨gb883, 5, none⟩) (Kd.V_far (p := ⟨gb883, 4, none⟩) (Kd.V_far (p := ⟨gb883, 3, none⟩) (Kd.V_far (p := ⟨gb883, 2, none⟩) (Kd.V_far (p := ⟨gb883, 1, none⟩) (Kd.V_far (p := ⟨gb883, 0, none⟩) (Kd.V_mono HO_869000.out (fun k_ hk => (⟨hk, by first | exact hk.2 | exact hk.2.1 | exact hk.2.2 | omega | grind⟩ : _ ∧ k_ ≠ gb883))) (fun _ hk => by first | exact hk.2 | grind) (.slice Ao118 t869.length co118)) (fun _ hk => by first | exact hk.2 | grind) (.slice Ao123 t872.length co123)) (fun _ hk => by first | exact hk.2 | grind) (.int .u64 t875)) (fun _ hk => by first | exact hk.2 | grind) (.slice Ao124 t876.length co124)) (fun _ hk => by first | exact hk.2 | grind) (.int .u32 t879)) (fun _ hk => by first | exact hk.2 | grind) (.int .u32 t880)) (fun _ h_ => h_.1))) hb); replace HO_869001 := Aside0.mk (Kd.V_below (by (with_reducible repeat (first | apply Kd.V_alloc | apply Kd.V_drewN | apply Kd.V_drew)); exact (Kd.V_mono (Kd.V_far (p := ⟨gb883, 5, none⟩) (Kd.V_far (p := ⟨gb883, 4, none⟩) (Kd.V_far (p := ⟨gb883, 3, none⟩) (Kd.V_far (p := ⟨gb883, 2, none⟩) (Kd.V_far (p := ⟨gb883, 1, none⟩) (Kd.V_far (p := ⟨gb883, 0, none⟩) (Kd.V_mono HO_869001.out (fun k_ hk => (⟨hk, by first | exact hk.2 | exact hk.2.1 | exact hk.2.2 | omega | grind⟩ : _ ∧ k_ ≠ gb883))) (fun _ hk => by first | exact hk.2 | grind) (.slice Ao118 t869.length co118)) (fun _ hk => by first | exact hk.2 | grind) (.slice Ao123 t872.length co123)) (fun _ hk => by first | exact hk.2 | grind) (.int .u64 t875)) (fun _ hk => by first | exact hk.2 | grind) (.slice Ao124 t876.length co124)) (fun _ hk => by first | exact hk.2 | grind) (.int .u32 t879)) (fun _ hk => by first | exact hk.2 | grind) (.int .u32 t880)) (fun _ h_ => h_.1))) hb); replace HO_869003 := Aside0.mk (Kd.V_below (by (with_reducible repeat (first | apply Kd.V_alloc | apply Kd.V_drewN | apply Kd.V_drew)); exact (Kd.V_mono (Kd.V_far (p := ⟨gb883, 5, none⟩) (Kd.V_far (p := ⟨gb883, 4, none⟩) (Kd.V_far (p := ⟨gb883, 3, none⟩) (Kd.V_far (p := ⟨gb883, 2, none⟩) (Kd.V_far (p := ⟨gb883, 1, none⟩) (Kd.V_far (p := ⟨gb883, 0, none⟩) (Kd.V_mono HO_869003.out (fun k_ hk => (⟨hk, by first | exact hk.2 | exact hk.2.1 | exact hk.2.2 | omega | grind⟩ : _ ∧ k_ ≠ gb883))) (fun _ hk => by first | exact hk.2 | grind) (.slice Ao118 t869.length co118)) (fun _ hk => by first | exact hk.2 | grind) (.slice Ao123 t872.length co123)) (fun _ hk => by first | exact hk.2 | grind) (.int .u64 t875)) (fun _ hk => by first | exact hk.2 | grind) (.slice Ao124 t876.length co124)) (fun _ hk => by first | exact hk.2 | grind) (.int .u32 t879)) (fun _ hk => by first | exact hk.2 | grind) (.int .u32 t880)) (fun _ h_ => h_.1))) hb); replace HO871 := Aside0.mk (Kd.V_below (by (with_reducible repeat (first | apply Kd.V_alloc | apply Kd.V_drewN | apply Kd.V_drew)); exact (Kd.V_mono (Kd.V_far (p := ⟨gb883, 5, none⟩) (Kd.V_far (p := ⟨gb883, 4, none⟩) (Kd.V_far (p := ⟨gb883, 3, none⟩) (Kd.V_far (p := ⟨gb883, 2, none⟩) (Kd.V_far (p := ⟨gb883, 1, none⟩) (Kd.V_far (p := ⟨gb883, 0, none⟩) (Kd.V_mono HO871.out (fun k_ hk => (⟨hk, by first | exact hk.2 | exact hk.2.1 | exact hk.2.2 | omega | grind⟩ : _ ∧ k_ ≠ gb883))) (fun _ hk => by first | exact hk.2 | grind) (.slice Ao118 t869.length co118)) (fun _ hk => by first | exact hk.2 | grind) (.slice Ao123 t872.length co123)) (fun _ hk => by first | exact hk.2 | grind) (.int .u64 t875)) (fun _ hk => by first | exact hk.2 | grind) (.slice Ao124 t876.length co124)) (fun _ hk => by first | exact hk.2 | grind) (.int .u32 t879)) (fun _ hk => by first | exact hk.2 | grind) (.int .u32 t880)) (fun _ h_ => h_.1))) hb); replace HO874 := Aside0.mk (Kd.V_below (by (with_reducible repeat (first | apply Kd.V_alloc | apply Kd.V_drewN | apply Kd.V_drew)); exact (Kd.V_mono (Kd.V_far (p := ⟨gb883, 5, none⟩) (Kd.V_far (p := ⟨gb883, 4, none⟩) (Kd.V_far (p := ⟨gb883, 3, none⟩) (Kd.V_far (p := ⟨gb883, 2, none⟩) (Kd.V_far (p := ⟨gb883, 1, none⟩) (Kd.V_far (p := ⟨gb883, 0, none⟩) (Kd.V_mono HO874.out (fun k_ hk => (⟨hk, by first | exact hk.2 | exact hk.2.1 | exact hk.2.2 | omega | grind⟩ : _ ∧ k_ ≠ gb883))) (fun _ hk => by first | exact hk.2 | grind) (.slice Ao118 t869.length co118)) (fun _ hk => by first | exact hk.2 | grind) (.slice Ao123 t872.length co123)) (fun _ hk => by first | exact hk.2 | grind) (.int .u64 t875)) (fun _ hk => by first | exact hk.2 | grind) (.slice Ao124 t876.length co124)) (fun _ hk => by first | exact hk.2 | grind) (.int .u32 t879)) (fun _ hk => by first | exact hk.2 | grind) (.int .u32 t880)) (fun _ h_ => h_.1))) hb); replace HO878 := Aside0.mk (Kd.V_below (by (with_reducible repeat (first | apply Kd.V_alloc | apply Kd.V_drewN | apply Kd.V_drew)); exact (Kd.V_mono (Kd.V_far (p := ⟨gb883, 5, none⟩) (Kd.V_far (p := ⟨gb883, 4, none⟩) (Kd.V_far (p := ⟨gb883, 3, none⟩) (Kd.V_far (p := ⟨gb883, 2, none⟩) (Kd.V_far (p := ⟨gb883, 1, none⟩) (Kd.V_far (p := ⟨gb883, 0, none⟩) (Kd.V_mono HO878.out (fun k_ hk => (⟨hk, by first | exact hk.2 | exact hk.2.1 | exact hk.2.2 | omega | grind⟩ : _ ∧ k_ ≠ gb883))) (fun _ hk => by first | exact hk.2 | grind) (.slice Ao118 t869.length co118)) (fun _ hk => by first | exact hk.2 | grind) (.slice Ao123 t872.length co123)) (fun _ hk => by first | exact hk.2 | grind) (.int .u64 t875)) (fun _ hk => by first | exact hk.2 | grind) (.slice Ao124 t876.length co124)) (fun _ hk => by first | exact hk.2 | grind) (.int .u32 t879)) (fun _ hk => by first | exact hk.2 | grind) (.int .u32 t880)) (fun _ h_ => h_.1))) hb); replace BK834 := kB_ BK834 hb; replace BK851 := kB_ BK851 hb; replace BK868 := kB_ BK868 hb; replace BK883 := Aside0.mk (blk_below (g := gb883) (o := .cells #[.slice Ao118 t869.length co118, .slice Ao123 t872.length co123, .int .u64 t875, .slice Ao124 t876.length co124, .int .u32 t879, .int .u32 t880] 63 (0, 0)) (kP_ BK883.out) hb); replace HB := hB_ hb; (try clear hb); (try clear hb2); (try clear hk); (try clear hi)))
              go_ret
              exact ⟨r3_, beT_⟩

end Go.Proofs.Ytgkjdpdmmlalcaa.F
end
