import Derived.Test.YtgkjdpdmmlalcaaZF0
import Derived.Test.YtgkjdpdmmlalcaaYA0
import Derived.Test.YtgkjdpdmmlalcaaYA2
import Derived.Test.YtgkjdpdmmlalcaaYA4
import Derived.Test.YtgkjdpdmmlalcaaYA6
import Derived.Test.YtgkjdpdmmlalcaaYA8
import Derived.Test.YtgkjdpdmmlalcaaYA11HHost6
import Derived.Test.YtgkjdpdmmlalcaaYA12
import Derived.Test.YtgkjdpdmmlalcaaYA16
import Derived.Test.YtgkjdpdmmlalcaaYA18
import Derived.Test.YtgkjdpdmmlalcaaYA25FFerrylaw05Awake
section
namespace Go.Proofs.Ytgkjdpdmmlalcaa.F
open Go.RowKit Go.Proofs.YtgkjdpdmmlalcaaW.PrintWords Go.Proofs.YtgkjdpdmmlalcaaW.PrintLast Go.Proofs.YtgkjdpdmmlalcaaW.PrintMore
attribute [local go_sem] max2_int min2_int max_two min_two max_three min_three max_four min_four
attribute [local go_sem] cell_twice
set_option linter.unusedVariables false
set_option linter.unusedSimpArgs false

def ferrylaw05_GmemHalves.j0 : Nat → Int → Int → Int → Bool → List (S83) → List (S88) → Int → List (S41) → Option (Bool)
  | 0, _, _, _, _, _, _, _, _ => none
  | k + 1, x1, x2, x3, x64, x387000, x387001, x387002, x387003 => if x64 = true then (none) else ((gmem_Bytes.f x387000 x387001 x387002 x387003 x1 ((((x2) % 4294967296) + ((x3) % 4294967296)) % 4294967296)).bind fun bt401 => (if bt401.2.1 = 0 then ((gmem_Bytes.f x387000 x387001 x387002 x387003 x1 ((x2) % 4294967296)).bind fun bt405 => ((gmem_Bytes.f x387000 x387001 x387002 x387003 ((x1 + ((x2) % 4294967296)) % 4294967296) ((x3) % 4294967296)).bind fun bt409 => (if bt405.2.1 = 0 then (if x3 = 0 then ((ferrylaw05_awake.f k).bind fun t413 => (some t413)) else (if bt409.2.1 = 0 then (if bt405.1.size + bt409.1.size ≤ 9223372036854775807 then (if bt401.1.toList = (bt405.1 ++ bt409.1).toList then ((ferrylaw05_awake.f k).bind fun t414 => (some t414)) else (none)) else (none)) else (none))) else (none)))) else (if bt401.1.toList = ([] : List UInt8) then ((ferrylaw05_awake.f k).bind fun t415 => (some t415)) else (none))))
def ferrylaw05_GmemHalves.f (k : Nat) (l0_0 : List (S83)) (l0_1 : List (S88)) (a0_2 : Int) (l0_3 : List (S41)) (a1 : Int) (a2 : Int) (a3 : Int) : Option (Bool) := (ferrylaw05_few.f k l0_0 l0_1 a0_2 l0_3).bind fun t387 => (if t387 = true then ((gmem_Load.f l0_0 l0_1 a0_2 l0_3 a1 4).bind fun bt389 => ((gmem_Load.f l0_0 l0_1 a0_2 l0_3 a1 2).bind fun bt393 => ((gmem_Load.f l0_0 l0_1 a0_2 l0_3 ((a1 + 2) % 4294967296) 2).bind fun bt397 => (if bt389.2.1 = 0 then (if bt393.2.1 = 0 then (if bt397.2.1 = 0 then (ferrylaw05_GmemHalves.j0 k a1 a2 a3 (bt389.1 != (Go.bits .or .u64 (IntKind.u64.wrap (bt393.1 * 65536)) bt397.1)) l0_0 l0_1 a0_2 l0_3) else (ferrylaw05_GmemHalves.j0 k a1 a2 a3 true l0_0 l0_1 a0_2 l0_3)) else (ferrylaw05_GmemHalves.j0 k a1 a2 a3 true l0_0 l0_1 a0_2 l0_3)) else (ferrylaw05_GmemHalves.j0 k a1 a2 a3 false l0_0 l0_1 a0_2 l0_3))))) else ((ferrylaw05_awake.f k).bind fun t388 => (some t388)))
set_option maxHeartbeats 8000000 in
set_option maxRecDepth 100000 in
theorem ferrylaw05_GmemHalves.calls (k : Nat) (A0_0 : Option Addr) (c0_0 : Nat) (l0_0 : List (S83)) (A0_1 : Option Addr) (c0_1 : Nat) (l0_1 : List (S88)) (a0_2 : Int) (A0_3 : Option Addr) (c0_3 : Nat) (l0_3 : List (S41)) (a1 : Int) (a2 : Int) (a3 : Int) (r : Bool) (w : World) (hr0_0 : Kd.C k83 w A0_0 l0_0.length l0_0) (hc0_0 : l0_0.length ≤ c0_0) (hr0_1 : Kd.C k88 w A0_1 l0_1.length l0_1) (hc0_1 : l0_1.length ≤ c0_1) (hr0_3 : Kd.C k41 w A0_3 l0_3.length l0_3) (hc0_3 : l0_3.length ≤ c0_3) (h : ferrylaw05_GmemHalves.f k l0_0 l0_1 a0_2 l0_3 a1 a2 a3 = some r) :
    Calls Try.prog 4 #[.agg #[.slice A0_0 l0_0.length c0_0, .slice A0_1 l0_1.length c0_1, .int .u64 a0_2, .slice A0_3 l0_3.length c0_3], .int .u32 a1, .int .u8 a2, .int .u8 a3] w fun e w' => e = .returned (.bool r) ∧ Below w.heap.size w w' := by
  have hu29 := Try.underlying29
  have hu34 := Try.underlying34
  have HR0_0 := Aside0.mk hr0_0
  have HC0_0 := Aside0.mk hc0_0
  clear hr0_0 hc0_0
  have HR0_1 := Aside0.mk hr0_1
  have HC0_1 := Aside0.mk hc0_1
  clear hr0_1 hc0_1
  have HR0_3 := Aside0.mk hr0_3
  have HC0_3 := Aside0.mk hc0_3
  clear hr0_3 hc0_3
  have HB := Aside0.mk (Below.refl w.heap.size w)
  have H : ((ferrylaw05_few.f k l0_0 l0_1 a0_2 l0_3).bind fun t387 => (if t387 = true then ((gmem_Load.f l0_0 l0_1 a0_2 l0_3 a1 4).bind fun bt389 => ((gmem_Load.f l0_0 l0_1 a0_2 l0_3 a1 2).bind fun bt393 => ((gmem_Load.f l0_0 l0_1 a0_2 l0_3 ((a1 + 2) % 4294967296) 2).bind fun bt397 => (if bt389.2.1 = 0 then (if bt393.2.1 = 0 then (if bt397.2.1 = 0 then (ferrylaw05_GmemHalves.j0 k a1 a2 a3 (bt389.1 != (Go.bits .or .u64 (IntKind.u64.wrap (bt393.1 * 65536)) bt397.1)) l0_0 l0_1 a0_2 l0_3) else (ferrylaw05_GmemHalves.j0 k a1 a2 a3 true l0_0 l0_1 a0_2 l0_3)) else (ferrylaw05_GmemHalves.j0 k a1 a2 a3 true l0_0 l0_1 a0_2 l0_3)) else (ferrylaw05_GmemHalves.j0 k a1 a2 a3 false l0_0 l0_1 a0_2 l0_3))))) else ((ferrylaw05_awake.f k).bind fun t388 => (some t388)))) = some r := h
  clear h
  replace H := Option.bind_eq_some_iff.mp H
  obtain ⟨t387, A50, H⟩ := H
  have A5 := Aside0.mk A50
  clear A50
  by_cases c6 : t387 = true
  · subst c6
    replace H := hP_ H
    replace H := Option.bind_eq_some_iff.mp H
    obtain ⟨⟨t389, t390, t391⟩, A70, H⟩ := H
    have A7 := Aside0.mk A70
    clear A70
    replace H := Option.bind_eq_some_iff.mp H
    obtain ⟨⟨t393, t394, t395⟩, A80, H⟩ := H
    have A8 := Aside0.mk A80
    clear A80
    replace H := Option.bind_eq_some_iff.mp H
    obtain ⟨⟨t397, t398, t399⟩, A90, H⟩ := H
    have A9 := Aside0.mk A90
    clear A90
    have HC10 := Aside0.mk H
    clear H
    go_enter Try.func4, Try.ntmps4
    go_upto_region 6 with (first | ((with_reducible refine gate_dst (N := 4) rfl ?_); refine bE_ 4 #[.slice A0_0 l0_0.length c0_0, .slice A0_1 l0_1.length c0_1, .int .u64 a0_2, .slice A0_3 l0_3.length c0_3] 29 ?_; intro gb386 hg w11 hbox hb; have BK386 := Aside0.mk hbox; have GW386 := geT_ w.heap.size hg; have GE386 := geT_ w.heap.size hg; replace HB := hB_ hb; clear hb hbox hg; obtain ⟨hcz12_0, hcz12_1, hcz12_2, hcz12_3, hfz12_0, hfz12_1, hfz12_2, hfz12_3⟩ := b4_ BK386.out) | ((with_reducible refine gate_callee (f := 9) rfl ?_); refine gL_ (some 22) Try.func9 #[.agg #[.slice A0_0 l0_0.length c0_0, .slice A0_1 l0_1.length c0_1, .int .u64 a0_2, .slice A0_3 l0_3.length c0_3]] ?_; (with_reducible refine (ferrylaw05_few.calls k _ _ l0_0 _ _ l0_1 a0_2 _ _ l0_3 true _ ?side1 ?side2 ?side3 ?side4 ?side5 ?side6 A5.out).mono ?_); (case side1 => exact cT_ (Kd.C_below HR0_0.out HB.out)); (case side2 => exact HC0_0.out); (case side3 => exact cT_ (Kd.C_below HR0_1.out HB.out)); (case side4 => exact HC0_1.out); (case side5 => exact cT_ (Kd.C_below HR0_3.out HB.out)); (case side6 => exact HC0_3.out); rintro e w13 ⟨rfl, hb⟩; refine ⟨_, rfl, ?_⟩; replace BK386 := kB_ BK386 hb; replace HB := hB_ hb; (try clear hb); (try clear hb2); (try clear hk); (try clear hi); obtain ⟨hcz14_0, hcz14_1, hcz14_2, hcz14_3, hfz14_0, hfz14_1, hfz14_2, hfz14_3⟩ := b4_ BK386.out) | ((with_reducible refine gate_callee (f := 17) rfl ?_); refine gL_ (some 28) Try.func17 #[.agg #[.slice A0_0 l0_0.length c0_0, .slice A0_1 l0_1.length c0_1, .int .u64 a0_2, .slice A0_3 l0_3.length c0_3], .int .u32 a1, .int .i64 4] ?_; (with_reducible refine (gmem_Load.calls _ _ l0_0 _ _ l0_1 a0_2 _ _ l0_3 a1 4 t389 t390 t391 _ ?side1 ?side2 ?side3 ?side4 ?side5 ?side6 A7.out).mono ?_); (case side1 => exact cT_ (Kd.C_below HR0_0.out HB.out)); (case side2 => exact HC0_0.out); (case side3 => exact cT_ (Kd.C_below HR0_1.out HB.out)); (case side4 => exact HC0_1.out); (case side5 => exact cT_ (Kd.C_below HR0_3.out HB.out)); (case side6 => exact HC0_3.out); rintro e w15 ⟨rfl, hb⟩; refine ⟨_, rfl, ?_⟩; replace BK386 := kB_ BK386 hb; replace HB := hB_ hb; (try clear hb); (try clear hb2); (try clear hk); (try clear hi)) | ((with_reducible refine gate_dst (N := 10) rfl ?_); refine bE_ 10 #[.int .i64 0, .int .u64 0] 34 ?_; intro gb392 hg w16 hbox hb; have BK392 := Aside0.mk hbox; have GW392 := geT_ w.heap.size hg; have GE392 := geT_ w.heap.size hg; have NB386_392 := nlT_ BK386.out hg; have NB392_386 := ngT_ BK386.out hg; replace BK386 := kB_ BK386 hb; replace HB := hB_ hb; clear hb hbox hg; have hnb17 := NB392_386.out; have hnc17 := NB386_392.out; obtain ⟨hcz18_0, hcz18_1, hfz18_0, hfz18_1⟩ := b2_ BK392.out; obtain ⟨hcz19_0, hcz19_1, hcz19_2, hcz19_3, hfz19_0, hfz19_1, hfz19_2, hfz19_3⟩ := b4_ BK386.out) | ((with_reducible refine gate_callee (f := 17) rfl ?_); refine gL_ (some 34) Try.func17 #[.agg #[.slice A0_0 l0_0.length c0_0, .slice A0_1 l0_1.length c0_1, .int .u64 a0_2, .slice A0_3 l0_3.length c0_3], .int .u32 a1, .int .i64 2] ?_; (with_reducible refine (gmem_Load.calls _ _ l0_0 _ _ l0_1 a0_2 _ _ l0_3 a1 2 t393 t394 t395 _ ?side1 ?side2 ?side3 ?side4 ?side5 ?side6 A8.out).mono ?_); (case side1 => exact Kd.C_below HR0_0.out beT_); (case side2 => exact HC0_0.out); (case side3 => exact Kd.C_below HR0_1.out beT_); (case side4 => exact HC0_1.out); (case side5 => exact Kd.C_below HR0_3.out beT_); (case side6 => exact HC0_3.out); rintro e w20 ⟨rfl, hb⟩; refine ⟨_, rfl, ?_⟩; replace BK386 := kB_ BK386 hb; replace BK392 := Aside0.mk (blk_below (g := gb392) (o := .cells #[.int .i64 t390, .int .u64 t391] 34 (0, 0)) (kP_ BK392.out) hb); replace HB := hB_ hb; (try clear hb); (try clear hb2); (try clear hk); (try clear hi)) | ((with_reducible refine gate_dst (N := 12) rfl ?_); refine bE_ 12 #[.int .i64 0, .int .u64 0] 34 ?_; intro gb396 hg w21 hbox hb; have BK396 := Aside0.mk hbox; have GW396 := geT_ w.heap.size hg; have GE396 := geT_ w.heap.size hg; have NB386_396 := nlT_ BK386.out hg; have NB396_386 := ngT_ BK386.out hg; have NB392_396 := nlT_ BK392.out hg; have NB396_392 := ngT_ BK392.out hg; replace BK386 := kB_ BK386 hb; replace BK392 := kB_ BK392 hb; replace HB := hB_ hb; clear hb hbox hg; have hnb22 := NB396_386.out; have hnc22 := NB386_396.out; have hnb23 := NB396_392.out; have hnc23 := NB392_396.out; obtain ⟨hcz24_0, hcz24_1, hfz24_0, hfz24_1⟩ := b2_ BK396.out; obtain ⟨hcz25_0, hcz25_1, hcz25_2, hcz25_3, hfz25_0, hfz25_1, hfz25_2, hfz25_3⟩ := b4_ BK386.out) | ((with_reducible refine gate_callee (f := 17) rfl ?_); refine gL_ (some 41) Try.func17 #[.agg #[.slice A0_0 l0_0.length c0_0, .slice A0_1 l0_1.length c0_1, .int .u64 a0_2, .slice A0_3 l0_3.length c0_3], .int .u32 ((a1 + 2) % 4294967296), .int .i64 2] ?_; (with_reducible refine (gmem_Load.calls _ _ l0_0 _ _ l0_1 a0_2 _ _ l0_3 ((a1 + 2) % 4294967296) 2 t397 t398 t399 _ ?side1 ?side2 ?side3 ?side4 ?side5 ?side6 A9.out).mono ?_); (case side1 => exact Kd.C_below HR0_0.out beT_); (case side2 => exact HC0_0.out); (case side3 => exact Kd.C_below HR0_1.out beT_); (case side4 => exact HC0_1.out); (case side5 => exact Kd.C_below HR0_3.out beT_); (case side6 => exact HC0_3.out); rintro e w26 ⟨rfl, hb⟩; refine ⟨_, rfl, ?_⟩; replace BK386 := kB_ BK386 hb; replace BK392 := kB_ BK392 hb; replace BK396 := Aside0.mk (blk_below (g := gb396) (o := .cells #[.int .i64 t394, .int .u64 t395] 34 (0, 0)) (kP_ BK396.out) hb); replace HB := hB_ hb; (try clear hb); (try clear hb2); (try clear hk); (try clear hi)) | ((with_reducible refine gate_dst (N := 14) rfl ?_); refine bE_ 14 #[.int .i64 0, .int .u64 0] 34 ?_; intro gb400 hg w27 hbox hb; have BK400 := Aside0.mk hbox; have GW400 := geT_ w.heap.size hg; have GE400 := geT_ w.heap.size hg; have NB386_400 := nlT_ BK386.out hg; have NB400_386 := ngT_ BK386.out hg; have NB392_400 := nlT_ BK392.out hg; have NB400_392 := ngT_ BK392.out hg; have NB396_400 := nlT_ BK396.out hg; have NB400_396 := ngT_ BK396.out hg; replace BK386 := kB_ BK386 hb; replace BK392 := kB_ BK392 hb; replace BK396 := kB_ BK396 hb; replace HB := hB_ hb; clear hb hbox hg; have hnb28 := NB400_386.out; have hnc28 := NB386_400.out; have hnb29 := NB400_392.out; have hnc29 := NB392_400.out; have hnb30 := NB400_396.out; have hnc30 := NB396_400.out; obtain ⟨hcz31_0, hcz31_1, hfz31_0, hfz31_1⟩ := b2_ BK400.out))
    (try simp only [Act.put, List.setIfInBounds_toArray, List.set_cons_zero, List.set_cons_succ])
    go_cut [64] (fun v64 wc => ∃ (kq : Nat) (x64_9 : Bool), v64 = .bool x64_9 ∧ Aside0 (ferrylaw05_GmemHalves.j0 kq a1 a2 a3 x64_9 l0_0 l0_1 a0_2 l0_3 = some r) ∧ Aside0 (kq ≤ k) ∧ Aside0 (wc.heap[gb386]? = some (.cells #[(.slice A0_0 l0_0.length c0_0), (.slice A0_1 l0_1.length c0_1), .int .u64 a0_2, (.slice A0_3 l0_3.length c0_3)] 29 (0, 0))) ∧ Aside0 (wc.heap[gb392]? = some (.cells #[.int .i64 t390, .int .u64 t391] 34 (0, 0))) ∧ Aside0 (wc.heap[gb396]? = some (.cells #[.int .i64 t394, .int .u64 t395] 34 (0, 0))) ∧ Aside0 (wc.heap[gb400]? = some (.cells #[.int .i64 t398, .int .u64 t399] 34 (0, 0))) ∧ Aside0 (Below w.heap.size w wc))
    case first =>
      have H := HC10.out
      clear HC10
      by_cases c32 : t390 = 0
      · rw [if_pos c32] at H
        have c32b0 : (t390 == 0) = true := beq_iff_eq.mpr c32
        have c32b1 : (t390 != 0) = false := bne_eq_false_iff_eq.mpr c32
        clear c32
        (first | rw [c32b0] | (simp only [i64_w, i32_w]; rw [c32b0]) | skip)
        by_cases c33 : t394 = 0
        · rw [if_pos c33] at H
          have c33b0 : (t394 == 0) = true := beq_iff_eq.mpr c33
          have c33b1 : (t394 != 0) = false := bne_eq_false_iff_eq.mpr c33
          clear c33
          by_cases c34 : t398 = 0
          · rw [if_pos c34] at H
            have c34b0 : (t398 == 0) = true := beq_iff_eq.mpr c34
            have c34b1 : (t398 != 0) = false := bne_eq_false_iff_eq.mpr c34
            clear c34
            have H' := Aside0.mk H
            clear H
            have hnb35 := NB392_386.out
            have hnc35 := NB386_392.out
            have hnb36 := NB392_396.out
            have hnc36 := NB396_392.out
            have hnb37 := NB392_400.out
            have hnc37 := NB400_392.out
            obtain ⟨hcz38_0, hcz38_1, hfz38_0, hfz38_1⟩ := b2_ BK392.out
            have hnb39 := NB396_386.out
            have hnc39 := NB386_396.out
            have hnb40 := NB396_400.out
            have hnc40 := NB400_396.out
            obtain ⟨hcz41_0, hcz41_1, hfz41_0, hfz41_1⟩ := b2_ BK396.out
            have hnb42 := NB400_386.out
            have hnc42 := NB386_400.out
            obtain ⟨hcz43_0, hcz43_1, hfz43_0, hfz43_1⟩ := b2_ BK400.out
            go_wp2
            go_meet
            case rel => exact ⟨_, ((t389 != (Go.bits .or .u64 (IntKind.u64.wrap (t393 * 65536)) t397))), r1_, H', ⟨r2_⟩, ⟨bfT_ BK386.out⟩, ⟨bfT_ BK392.out⟩, ⟨bfT_ BK396.out⟩, ⟨kP_ BK400.out⟩, ⟨beT_⟩⟩
          rw [if_neg c34] at H
          have c34b0 : (t398 == 0) = false := beq_eq_false_iff_ne.mpr c34
          have c34b1 : (t398 != 0) = true := bne_iff_ne.mpr c34
          have H' := Aside0.mk H
          clear H
          have hnb44 := NB392_386.out
          have hnc44 := NB386_392.out
          have hnb45 := NB392_396.out
          have hnc45 := NB396_392.out
          have hnb46 := NB392_400.out
          have hnc46 := NB400_392.out
          obtain ⟨hcz47_0, hcz47_1, hfz47_0, hfz47_1⟩ := b2_ BK392.out
          have hnb48 := NB396_386.out
          have hnc48 := NB386_396.out
          have hnb49 := NB396_400.out
          have hnc49 := NB400_396.out
          obtain ⟨hcz50_0, hcz50_1, hfz50_0, hfz50_1⟩ := b2_ BK396.out
          have hnb51 := NB400_386.out
          have hnc51 := NB386_400.out
          obtain ⟨hcz52_0, hcz52_1, hfz52_0, hfz52_1⟩ := b2_ BK400.out
          go_wp2
          go_meet
          case rel => exact ⟨_, (true), r1_, H', ⟨r2_⟩, ⟨bfT_ BK386.out⟩, ⟨bfT_ BK392.out⟩, ⟨bfT_ BK396.out⟩, ⟨kP_ BK400.out⟩, ⟨beT_⟩⟩
        rw [if_neg c33] at H
        have c33b0 : (t394 == 0) = false := beq_eq_false_iff_ne.mpr c33
        have c33b1 : (t394 != 0) = true := bne_iff_ne.mpr c33
        have H' := Aside0.mk H
        clear H
        have hnb53 := NB392_386.out
        have hnc53 := NB386_392.out
        have hnb54 := NB392_396.out
        have hnc54 := NB396_392.out
        have hnb55 := NB392_400.out
        have hnc55 := NB400_392.out
        obtain ⟨hcz56_0, hcz56_1, hfz56_0, hfz56_1⟩ := b2_ BK392.out
        have hnb57 := NB396_386.out
        have hnc57 := NB386_396.out
        have hnb58 := NB396_400.out
        have hnc58 := NB400_396.out
        obtain ⟨hcz59_0, hcz59_1, hfz59_0, hfz59_1⟩ := b2_ BK396.out
        go_wp2
        go_meet
        case rel => exact ⟨_, (true), r1_, H', ⟨r2_⟩, ⟨bfT_ BK386.out⟩, ⟨bfT_ BK392.out⟩, ⟨bfT_ BK396.out⟩, ⟨kP_ BK400.out⟩, ⟨beT_⟩⟩
      rw [if_neg c32] at H
      have c32b0 : (t390 == 0) = false := beq_eq_false_iff_ne.mpr c32
      have c32b1 : (t390 != 0) = true := bne_iff_ne.mpr c32
      (first | rw [c32b0] | (simp only [i64_w, i32_w]; rw [c32b0]) | skip)
      have H' := Aside0.mk H
      clear H
      have hnb60 := NB392_386.out
      have hnc60 := NB386_392.out
      have hnb61 := NB392_396.out
      have hnc61 := NB396_392.out
      have hnb62 := NB392_400.out
      have hnc62 := NB400_392.out
      obtain ⟨hcz63_0, hcz63_1, hfz63_0, hfz63_1⟩ := b2_ BK392.out
      go_wp2
      go_meet
      case rel => exact ⟨_, (false), r1_, H', ⟨r2_⟩, ⟨bfT_ BK386.out⟩, ⟨bfT_ BK392.out⟩, ⟨bfT_ BK396.out⟩, ⟨kP_ BK400.out⟩, ⟨beT_⟩⟩
    case rest =>
      clear HC10
      try clear c1
      try clear c2
      try clear p2
      try clear c3
      try clear c4
      try clear c5
      try clear c6
      try clear c9
      try clear c17
      try clear c22
      try clear c23
      try clear c28
      try clear c29
      try clear c30
      try clear c32
      try clear c32b0
      try clear c32b1
      try clear c33
      try clear c33b0
      try clear c33b1
      try clear c34
      try clear c34b0
      try clear c34b1
      try clear c35
      try clear c36
      try clear c37
      try clear c39
      try clear c40
      try clear c42
      try clear c44
      try clear c45
      try clear c46
      try clear c48
      try clear c49
      try clear c51
      try clear c53
      try clear c54
      try clear c55
      try clear c57
      try clear c58
      try clear c60
      try clear c61
      try clear c62
      try clear hcz12_0
      try clear hcz12_1
      try clear hcz12_2
      try clear hcz12_3
      try clear hcz14_0
      try clear hcz14_1
      try clear hcz14_2
      try clear hcz14_3
      try clear hcz18_0
      try clear hcz18_1
      try clear hcz19_0
      try clear hcz19_1
      try clear hcz19_2
      try clear hcz19_3
      try clear hcz24_0
      try clear hcz24_1
      try clear hcz25_0
      try clear hcz25_1
      try clear hcz25_2
      try clear hcz25_3
      try clear hcz31_0
      try clear hcz31_1
      try clear hcz38_0
      try clear hcz38_1
      try clear hcz41_0
      try clear hcz41_1
      try clear hcz43_0
      try clear hcz43_1
      try clear hcz47_0
      try clear hcz47_1
      try clear hcz50_0
      try clear hcz50_1
      try clear hcz52_0
      try clear hcz52_1
      try clear hcz56_0
      try clear hcz56_1
      try clear hcz59_0
      try clear hcz59_1
      try clear hcz63_0
      try clear hcz63_1
      try clear hfz12_0
      try clear hfz12_1
      try clear hfz12_2
      try clear hfz12_3
      try clear hfz14_0
      try clear hfz14_1
      try clear hfz14_2
      try clear hfz14_3
      try clear hfz18_0
      try clear hfz18_1
      try clear hfz19_0
      try clear hfz19_1
      try clear hfz19_2
      try clear hfz19_3
      try clear hfz24_0
      try clear hfz24_1
      try clear hfz25_0
      try clear hfz25_1
      try clear hfz25_2
      try clear hfz25_3
      try clear hfz31_0
      try clear hfz31_1
      try clear hfz38_0
      try clear hfz38_1
      try clear hfz41_0
      try clear hfz41_1
      try clear hfz43_0
      try clear hfz43_1
      try clear hfz47_0
      try clear hfz47_1
      try clear hfz50_0
      try clear hfz50_1
      try clear hfz52_0
      try clear hfz52_1
      try clear hfz56_0
      try clear hfz56_1
      try clear hfz59_0
      try clear hfz59_1
      try clear hfz63_0
      try clear hfz63_1
      obtain ⟨kq, x64_9, rfl, HA, HJ9, BK386, BK392, BK396, BK400, HB⟩ := hcut
      cases kq with
      | zero => exact absurd HA.out (by simp [ferrylaw05_GmemHalves.j0])
      | succ kj9 =>
        have H := HA.out
        clear HA
        simp only [ferrylaw05_GmemHalves.j0] at H
        by_cases c64 : x64_9 = true
        · subst c64
          replace H := hP_ H
          exact absurd H (by simp)
        replace c64 := Bool.eq_false_iff.mpr c64
        subst c64
        replace H := hN_ H
        replace H := Option.bind_eq_some_iff.mp H
        obtain ⟨⟨t401, t402, t403⟩, A650, H⟩ := H
        have A65 := Aside0.mk A650
        clear A650
        by_cases c66 : t402 = 0
        · rw [if_pos c66] at H
          have c66b0 : (t402 == 0) = true := beq_iff_eq.mpr c66
          have c66b1 : (t402 != 0) = false := bne_eq_false_iff_eq.mpr c66
          clear c66
          replace H := Option.bind_eq_some_iff.mp H
          obtain ⟨⟨t405, t406, t407⟩, A670, H⟩ := H
          have A67 := Aside0.mk A670
          clear A670
          replace H := Option.bind_eq_some_iff.mp H
          obtain ⟨⟨t409, t410, t411⟩, A680, H⟩ := H
          have A68 := Aside0.mk A680
          clear A680
          by_cases c69 : t406 = 0
          · rw [if_pos c69] at H
            have c69b0 : (t406 == 0) = true := beq_iff_eq.mpr c69
            have c69b1 : (t406 != 0) = false := bne_eq_false_iff_eq.mpr c69
            clear c69
            by_cases c70 : a3 = 0
            · rw [if_pos c70] at H
              have c70b0 : (a3 == 0) = true := beq_iff_eq.mpr c70
              have c70b1 : (a3 != 0) = false := bne_eq_false_iff_eq.mpr c70
              clear c70
              replace H := Option.bind_eq_some_iff.mp H
              obtain ⟨t413, A710, H⟩ := H
              have A71 := Aside0.mk A710
              clear A710
              obtain rfl := Option.some.inj H
              have hnb72 := NB386_392.out
              have hnc72 := NB392_386.out
              have hnb73 := NB386_396.out
              have hnc73 := NB396_386.out
              have hnb74 := NB386_400.out
              have hnc74 := NB400_386.out
              obtain ⟨hcz75_0, hcz75_1, hcz75_2, hcz75_3, hfz75_0, hfz75_1, hfz75_2, hfz75_3⟩ := b4_ BK386.out
              go_wp2_with (first | ((with_reducible refine gate_callee (f := 13) rfl ?_); refine gL_ (some 73) Try.func13 #[.agg #[.slice A0_0 l0_0.length c0_0, .slice A0_1 l0_1.length c0_1, .int .u64 a0_2, .slice A0_3 l0_3.length c0_3], .int .u32 a1, .int .u32 ((((a2) % 4294967296) + ((a3) % 4294967296)) % 4294967296)] ?_; (with_reducible refine (gmem_Bytes.calls _ _ l0_0 _ _ l0_1 a0_2 _ _ l0_3 a1 ((((a2) % 4294967296) + ((a3) % 4294967296)) % 4294967296) t401 t402 t403 _ ?side1 ?side2 ?side3 ?side4 ?side5 ?side6 A65.out).mono ?_); (case side1 => exact cT_ (Kd.C_below HR0_0.out HB.out)); (case side2 => exact HC0_0.out); (case side3 => exact cT_ (Kd.C_below HR0_1.out HB.out)); (case side4 => exact HC0_1.out); (case side5 => exact cT_ (Kd.C_below HR0_3.out HB.out)); (case side6 => exact HC0_3.out); rintro e w76 ⟨rfl, hb⟩; refine ⟨_, rfl, ?_⟩; replace BK386 := kB_ BK386 hb; replace BK392 := kB_ BK392 hb; replace BK396 := kB_ BK396 hb; replace BK400 := kB_ BK400 hb; replace HB := hB_ hb; (try clear hb); (try clear hb2); (try clear hk); (try clear hi)) | ((with_reducible refine gate_dst (N := 16) rfl ?_); refine bE_ 16 #[.int .i64 0, .int .u64 0] 34 ?_; intro gb404 hg w77 hbox hb; have BK404 := Aside0.mk hbox; have GW404 := geT_ w.heap.size hg; have GE404 := geT_ w.heap.size hg; have NB386_404 := nlT_ BK386.out hg; have NB404_386 := ngT_ BK386.out hg; have NB392_404 := nlT_ BK392.out hg; have NB404_392 := ngT_ BK392.out hg; have NB396_404 := nlT_ BK396.out hg; have NB404_396 := ngT_ BK396.out hg; have NB400_404 := nlT_ BK400.out hg; have NB404_400 := ngT_ BK400.out hg; replace BK386 := kB_ BK386 hb; replace BK392 := kB_ BK392 hb; replace BK396 := kB_ BK396 hb; replace BK400 := kB_ BK400 hb; replace HB := hB_ hb; clear hb hbox hg; have hnb78 := NB404_386.out; have hnc78 := NB386_404.out; have hnb79 := NB404_392.out; have hnc79 := NB392_404.out; have hnb80 := NB404_396.out; have hnc80 := NB396_404.out; have hnb81 := NB404_400.out; have hnc81 := NB400_404.out; obtain ⟨hcz82_0, hcz82_1, hfz82_0, hfz82_1⟩ := b2_ BK404.out; obtain ⟨hcz83_0, hcz83_1, hcz83_2, hcz83_3, hfz83_0, hfz83_1, hfz83_2, hfz83_3⟩ := b4_ BK386.out) | ((with_reducible refine gate_callee (f := 13) rfl ?_); refine gL_ (some 89) Try.func13 #[.agg #[.slice A0_0 l0_0.length c0_0, .slice A0_1 l0_1.length c0_1, .int .u64 a0_2, .slice A0_3 l0_3.length c0_3], .int .u32 a1, .int .u32 ((a2) % 4294967296)] ?_; (with_reducible refine (gmem_Bytes.calls _ _ l0_0 _ _ l0_1 a0_2 _ _ l0_3 a1 ((a2) % 4294967296) t405 t406 t407 _ ?side1 ?side2 ?side3 ?side4 ?side5 ?side6 A67.out).mono ?_); (case side1 => exact Kd.C_below HR0_0.out beT_); (case side2 => exact HC0_0.out); (case side3 => exact Kd.C_below HR0_1.out beT_); (case side4 => exact HC0_1.out); (case side5 => exact Kd.C_below HR0_3.out beT_); (case side6 => exact HC0_3.out); rintro e w84 ⟨rfl, hb⟩; refine ⟨_, rfl, ?_⟩; replace BK386 := kB_ BK386 hb; replace BK392 := kB_ BK392 hb; replace BK396 := kB_ BK396 hb; replace BK400 := kB_ BK400 hb; replace BK404 := Aside0.mk (blk_below (g := gb404) (o := .cells #[.int .i64 t402, .int .u64 t403] 34 (0, 0)) (kP_ BK404.out) hb); replace HB := hB_ hb; (try clear hb); (try clear hb2); (try clear hk); (try clear hi)) | ((with_reducible refine gate_dst (N := 18) rfl ?_); refine bE_ 18 #[.int .i64 0, .int .u64 0] 34 ?_; intro gb408 hg w85 hbox hb; have BK408 := Aside0.mk hbox; have GW408 := geT_ w.heap.size hg; have GE408 := geT_ w.heap.size hg; have NB386_408 := nlT_ BK386.out hg; have NB408_386 := ngT_ BK386.out hg; have NB392_408 := nlT_ BK392.out hg; have NB408_392 := ngT_ BK392.out hg; have NB396_408 := nlT_ BK396.out hg; have NB408_396 := ngT_ BK396.out hg; have NB400_408 := nlT_ BK400.out hg; have NB408_400 := ngT_ BK400.out hg; have NB404_408 := nlT_ BK404.out hg; have NB408_404 := ngT_ BK404.out hg; replace BK386 := kB_ BK386 hb; replace BK392 := kB_ BK392 hb; replace BK396 := kB_ BK396 hb; replace BK400 := kB_ BK400 hb; replace BK404 := kB_ BK404 hb; replace HB := hB_ hb; clear hb hbox hg; have hnb86 := NB408_386.out; have hnc86 := NB386_408.out; have hnb87 := NB408_392.out; have hnc87 := NB392_408.out; have hnb88 := NB408_396.out; have hnc88 := NB396_408.out; have hnb89 := NB408_400.out; have hnc89 := NB400_408.out; have hnb90 := NB408_404.out; have hnc90 := NB404_408.out; obtain ⟨hcz91_0, hcz91_1, hfz91_0, hfz91_1⟩ := b2_ BK408.out; obtain ⟨hcz92_0, hcz92_1, hcz92_2, hcz92_3, hfz92_0, hfz92_1, hfz92_2, hfz92_3⟩ := b4_ BK386.out) | ((with_reducible refine gate_callee (f := 13) rfl ?_); refine gL_ (some 100) Try.func13 #[.agg #[.slice A0_0 l0_0.length c0_0, .slice A0_1 l0_1.length c0_1, .int .u64 a0_2, .slice A0_3 l0_3.length c0_3], .int .u32 ((a1 + ((a2) % 4294967296)) % 4294967296), .int .u32 ((a3) % 4294967296)] ?_; (with_reducible refine (gmem_Bytes.calls _ _ l0_0 _ _ l0_1 a0_2 _ _ l0_3 ((a1 + ((a2) % 4294967296)) % 4294967296) ((a3) % 4294967296) t409 t410 t411 _ ?side1 ?side2 ?side3 ?side4 ?side5 ?side6 A68.out).mono ?_); (case side1 => exact Kd.C_below HR0_0.out beT_); (case side2 => exact HC0_0.out); (case side3 => exact Kd.C_below HR0_1.out beT_); (case side4 => exact HC0_1.out); (case side5 => exact Kd.C_below HR0_3.out beT_); (case side6 => exact HC0_3.out); rintro e w93 ⟨rfl, hb⟩; refine ⟨_, rfl, ?_⟩; replace BK386 := kB_ BK386 hb; replace BK392 := kB_ BK392 hb; replace BK396 := kB_ BK396 hb; replace BK400 := kB_ BK400 hb; replace BK404 := kB_ BK404 hb; replace BK408 := Aside0.mk (blk_below (g := gb408) (o := .cells #[.int .i64 t406, .int .u64 t407] 34 (0, 0)) (kP_ BK408.out) hb); replace HB := hB_ hb; (try clear hb); (try clear hb2); (try clear hk); (try clear hi)) | ((with_reducible refine gate_dst (N := 20) rfl ?_); refine bE_ 20 #[.int .i64 0, .int .u64 0] 34 ?_; intro gb412 hg w94 hbox hb; have BK412 := Aside0.mk hbox; have GW412 := geT_ w.heap.size hg; have GE412 := geT_ w.heap.size hg; have NB386_412 := nlT_ BK386.out hg; have NB412_386 := ngT_ BK386.out hg; have NB392_412 := nlT_ BK392.out hg; have NB412_392 := ngT_ BK392.out hg; have NB396_412 := nlT_ BK396.out hg; have NB412_396 := ngT_ BK396.out hg; have NB400_412 := nlT_ BK400.out hg; have NB412_400 := ngT_ BK400.out hg; have NB404_412 := nlT_ BK404.out hg; have NB412_404 := ngT_ BK404.out hg; have NB408_412 := nlT_ BK408.out hg; have NB412_408 := ngT_ BK408.out hg; replace BK386 := kB_ BK386 hb; replace BK392 := kB_ BK392 hb; replace BK396 := kB_ BK396 hb; replace BK400 := kB_ BK400 hb; replace BK404 := kB_ BK404 hb; replace BK408 := kB_ BK408 hb; replace HB := hB_ hb; clear hb hbox hg; have hnb95 := NB412_386.out; have hnc95 := NB386_412.out; have hnb96 := NB412_392.out; have hnc96 := NB392_412.out; have hnb97 := NB412_396.out; have hnc97 := NB396_412.out; have hnb98 := NB412_400.out; have hnc98 := NB400_412.out; have hnb99 := NB412_404.out; have hnc99 := NB404_412.out; have hnb100 := NB412_408.out; have hnc100 := NB408_412.out; obtain ⟨hcz101_0, hcz101_1, hfz101_0, hfz101_1⟩ := b2_ BK412.out; obtain ⟨hcz102_0, hcz102_1, hfz102_0, hfz102_1⟩ := b2_ BK408.out) | (go_at_call 10; (with_reducible refine (ferrylaw05_awake.calls kj9  t413 _ A71.out).mono ?_); rintro e w103 ⟨rfl, hb⟩; replace BK386 := kB_ BK386 hb; replace BK392 := kB_ BK392 hb; replace BK396 := kB_ BK396 hb; replace BK400 := kB_ BK400 hb; replace BK404 := kB_ BK404 hb; replace BK408 := kB_ BK408 hb; replace BK412 := Aside0.mk (blk_below (g := gb412) (o := .cells #[.int .i64 t410, .int .u64 t411] 34 (0, 0)) (kP_ BK412.out) hb); replace HB := hB_ hb; (try clear hb); (try clear hb2); (try clear hk); (try clear hi)))
              go_ret
              exact ⟨r3_, beT_⟩
            rw [if_neg c70] at H
            have c70b0 : (a3 == 0) = false := beq_eq_false_iff_ne.mpr c70
            have c70b1 : (a3 != 0) = true := bne_iff_ne.mpr c70
            by_cases c104 : t410 = 0
            · rw [if_pos c104] at H
              have c104b0 : (t410 == 0) = true := beq_iff_eq.mpr c104
              have c104b1 : (t410 != 0) = false := bne_eq_false_iff_eq.mpr c104
              clear c104
              by_cases c105 : t405.size + t409.size ≤ 9223372036854775807
              · rw [if_pos c105] at H
                have c105b0 := eq_true c105
                have c105b1 : decide (t405.size + t409.size ≤ 9223372036854775807) = true := decide_eq_true c105
                try have c105b2 : (9223372036854775807 < t405.size + t409.size) = False := eq_false (Nat.not_lt.2 c105)
                by_cases c106 : t401.toList = (t405 ++ t409).toList
                · rw [if_pos c106] at H
                  have c106b0 : (t401.toList == (t405 ++ t409).toList) = true := beq_iff_eq.mpr c106
                  have c106b1 : (t401.toList != (t405 ++ t409).toList) = false := bne_eq_false_iff_eq.mpr c106
                  clear c106
                  replace H := Option.bind_eq_some_iff.mp H
                  obtain ⟨t414, A1070, H⟩ := H
                  have A107 := Aside0.mk A1070
                  clear A1070
                  obtain rfl := Option.some.inj H
                  have hnb108 := NB386_392.out
                  have hnc108 := NB392_386.out
                  have hnb109 := NB386_396.out
                  have hnc109 := NB396_386.out
                  have hnb110 := NB386_400.out
                  have hnc110 := NB400_386.out
                  obtain ⟨hcz111_0, hcz111_1, hcz111_2, hcz111_3, hfz111_0, hfz111_1, hfz111_2, hfz111_3⟩ := b4_ BK386.out
                  go_wp2_with (first | ((with_reducible refine gate_callee (f := 13) rfl ?_); refine gL_ (some 73) Try.func13 #[.agg #[.slice A0_0 l0_0.length c0_0, .slice A0_1 l0_1.length c0_1, .int .u64 a0_2, .slice A0_3 l0_3.length c0_3], .int .u32 a1, .int .u32 ((((a2) % 4294967296) + ((a3) % 4294967296)) % 4294967296)] ?_; (with_reducible refine (gmem_Bytes.calls _ _ l0_0 _ _ l0_1 a0_2 _ _ l0_3 a1 ((((a2) % 4294967296) + ((a3) % 4294967296)) % 4294967296) t401 t402 t403 _ ?side1 ?side2 ?side3 ?side4 ?side5 ?side6 A65.out).mono ?_); (case side1 => exact cT_ (Kd.C_below HR0_0.out HB.out)); (case side2 => exact HC0_0.out); (case side3 => exact cT_ (Kd.C_below HR0_1.out HB.out)); (case side4 => exact HC0_1.out); (case side5 => exact cT_ (Kd.C_below HR0_3.out HB.out)); (case side6 => exact HC0_3.out); rintro e w112 ⟨rfl, hb⟩; refine ⟨_, rfl, ?_⟩; replace BK386 := kB_ BK386 hb; replace BK392 := kB_ BK392 hb; replace BK396 := kB_ BK396 hb; replace BK400 := kB_ BK400 hb; replace HB := hB_ hb; (try clear hb); (try clear hb2); (try clear hk); (try clear hi)) | ((with_reducible refine gate_dst (N := 16) rfl ?_); refine bE_ 16 #[.int .i64 0, .int .u64 0] 34 ?_; intro gb404 hg w113 hbox hb; have BK404 := Aside0.mk hbox; have GW404 := geT_ w.heap.size hg; have GE404 := geT_ w.heap.size hg; have NB386_404 := nlT_ BK386.out hg; have NB404_386 := ngT_ BK386.out hg; have NB392_404 := nlT_ BK392.out hg; have NB404_392 := ngT_ BK392.out hg; have NB396_404 := nlT_ BK396.out hg; have NB404_396 := ngT_ BK396.out hg; have NB400_404 := nlT_ BK400.out hg; have NB404_400 := ngT_ BK400.out hg; replace BK386 := kB_ BK386 hb; replace BK392 := kB_ BK392 hb; replace BK396 := kB_ BK396 hb; replace BK400 := kB_ BK400 hb; replace HB := hB_ hb; clear hb hbox hg; have hnb114 := NB404_386.out; have hnc114 := NB386_404.out; have hnb115 := NB404_392.out; have hnc115 := NB392_404.out; have hnb116 := NB404_396.out; have hnc116 := NB396_404.out; have hnb117 := NB404_400.out; have hnc117 := NB400_404.out; obtain ⟨hcz118_0, hcz118_1, hfz118_0, hfz118_1⟩ := b2_ BK404.out; obtain ⟨hcz119_0, hcz119_1, hcz119_2, hcz119_3, hfz119_0, hfz119_1, hfz119_2, hfz119_3⟩ := b4_ BK386.out) | ((with_reducible refine gate_callee (f := 13) rfl ?_); refine gL_ (some 89) Try.func13 #[.agg #[.slice A0_0 l0_0.length c0_0, .slice A0_1 l0_1.length c0_1, .int .u64 a0_2, .slice A0_3 l0_3.length c0_3], .int .u32 a1, .int .u32 ((a2) % 4294967296)] ?_; (with_reducible refine (gmem_Bytes.calls _ _ l0_0 _ _ l0_1 a0_2 _ _ l0_3 a1 ((a2) % 4294967296) t405 t406 t407 _ ?side1 ?side2 ?side3 ?side4 ?side5 ?side6 A67.out).mono ?_); (case side1 => exact Kd.C_below HR0_0.out beT_); (case side2 => exact HC0_0.out); (case side3 => exact Kd.C_below HR0_1.out beT_); (case side4 => exact HC0_1.out); (case side5 => exact Kd.C_below HR0_3.out beT_); (case side6 => exact HC0_3.out); rintro e w120 ⟨rfl, hb⟩; refine ⟨_, rfl, ?_⟩; replace BK386 := kB_ BK386 hb; replace BK392 := kB_ BK392 hb; replace BK396 := kB_ BK396 hb; replace BK400 := kB_ BK400 hb; replace BK404 := Aside0.mk (blk_below (g := gb404) (o := .cells #[.int .i64 t402, .int .u64 t403] 34 (0, 0)) (kP_ BK404.out) hb); replace HB := hB_ hb; (try clear hb); (try clear hb2); (try clear hk); (try clear hi)) | ((with_reducible refine gate_dst (N := 18) rfl ?_); refine bE_ 18 #[.int .i64 0, .int .u64 0] 34 ?_; intro gb408 hg w121 hbox hb; have BK408 := Aside0.mk hbox; have GW408 := geT_ w.heap.size hg; have GE408 := geT_ w.heap.size hg; have NB386_408 := nlT_ BK386.out hg; have NB408_386 := ngT_ BK386.out hg; have NB392_408 := nlT_ BK392.out hg; have NB408_392 := ngT_ BK392.out hg; have NB396_408 := nlT_ BK396.out hg; have NB408_396 := ngT_ BK396.out hg; have NB400_408 := nlT_ BK400.out hg; have NB408_400 := ngT_ BK400.out hg; have NB404_408 := nlT_ BK404.out hg; have NB408_404 := ngT_ BK404.out hg; replace BK386 := kB_ BK386 hb; replace BK392 := kB_ BK392 hb; replace BK396 := kB_ BK396 hb; replace BK400 := kB_ BK400 hb; replace BK404 := kB_ BK404 hb; replace HB := hB_ hb; clear hb hbox hg; have hnb122 := NB408_386.out; have hnc122 := NB386_408.out; have hnb123 := NB408_392.out; have hnc123 := NB392_408.out; have hnb124 := NB408_396.out; have hnc124 := NB396_408.out; have hnb125 := NB408_400.out; have hnc125 := NB400_408.out; have hnb126 := NB408_404.out; have hnc126 := NB404_408.out; obtain ⟨hcz127_0, hcz127_1, hfz127_0, hfz127_1⟩ := b2_ BK408.out; obtain ⟨hcz128_0, hcz128_1, hcz128_2, hcz128_3, hfz128_0, hfz128_1, hfz128_2, hfz128_3⟩ := b4_ BK386.out) | ((with_reducible refine gate_callee (f := 13) rfl ?_); refine gL_ (some 100) Try.func13 #[.agg #[.slice A0_0 l0_0.length c0_0, .slice A0_1 l0_1.length c0_1, .int .u64 a0_2, .slice A0_3 l0_3.length c0_3], .int .u32 ((a1 + ((a2) % 4294967296)) % 4294967296), .int .u32 ((a3) % 4294967296)] ?_; (with_reducible refine (gmem_Bytes.calls _ _ l0_0 _ _ l0_1 a0_2 _ _ l0_3 ((a1 + ((a2) % 4294967296)) % 4294967296) ((a3) % 4294967296) t409 t410 t411 _ ?side1 ?side2 ?side3 ?side4 ?side5 ?side6 A68.out).mono ?_); (case side1 => exact Kd.C_below HR0_0.out beT_); (case side2 => exact HC0_0.out); (case side3 => exact Kd.C_below HR0_1.out beT_); (case side4 => exact HC0_1.out); (case side5 => exact Kd.C_below HR0_3.out beT_); (case side6 => exact HC0_3.out); rintro e w129 ⟨rfl, hb⟩; refine ⟨_, rfl, ?_⟩; replace BK386 := kB_ BK386 hb; replace BK392 := kB_ BK392 hb; replace BK396 := kB_ BK396 hb; replace BK400 := kB_ BK400 hb; replace BK404 := kB_ BK404 hb; replace BK408 := Aside0.mk (blk_below (g := gb408) (o := .cells #[.int .i64 t406, .int .u64 t407] 34 (0, 0)) (kP_ BK408.out) hb); replace HB := hB_ hb; (try clear hb); (try clear hb2); (try clear hk); (try clear hi)) | ((with_reducible refine gate_dst (N := 20) rfl ?_); refine bE_ 20 #[.int .i64 0, .int .u64 0] 34 ?_; intro gb412 hg w130 hbox hb; have BK412 := Aside0.mk hbox; have GW412 := geT_ w.heap.size hg; have GE412 := geT_ w.heap.size hg; have NB386_412 := nlT_ BK386.out hg; have NB412_386 := ngT_ BK386.out hg; have NB392_412 := nlT_ BK392.out hg; have NB412_392 := ngT_ BK392.out hg; have NB396_412 := nlT_ BK396.out hg; have NB412_396 := ngT_ BK396.out hg; have NB400_412 := nlT_ BK400.out hg; have NB412_400 := ngT_ BK400.out hg; have NB404_412 := nlT_ BK404.out hg; have NB412_404 := ngT_ BK404.out hg; have NB408_412 := nlT_ BK408.out hg; have NB412_408 := ngT_ BK408.out hg; replace BK386 := kB_ BK386 hb; replace BK392 := kB_ BK392 hb; replace BK396 := kB_ BK396 hb; replace BK400 := kB_ BK400 hb; replace BK404 := kB_ BK404 hb; replace BK408 := kB_ BK408 hb; replace HB := hB_ hb; clear hb hbox hg; have hnb131 := NB412_386.out; have hnc131 := NB386_412.out; have hnb132 := NB412_392.out; have hnc132 := NB392_412.out; have hnb133 := NB412_396.out; have hnc133 := NB396_412.out; have hnb134 := NB412_400.out; have hnc134 := NB400_412.out; have hnb135 := NB412_404.out; have hnc135 := NB404_412.out; have hnb136 := NB412_408.out; have hnc136 := NB408_412.out; obtain ⟨hcz137_0, hcz137_1, hfz137_0, hfz137_1⟩ := b2_ BK412.out; obtain ⟨hcz138_0, hcz138_1, hfz138_0, hfz138_1⟩ := b2_ BK408.out) | (go_at_call 10; (with_reducible refine (ferrylaw05_awake.calls kj9  t414 _ A107.out).mono ?_); rintro e w139 ⟨rfl, hb⟩; replace BK386 := kB_ BK386 hb; replace BK392 := kB_ BK392 hb; replace BK396 := kB_ BK396 hb; replace BK400 := kB_ BK400 hb; replace BK404 := kB_ BK404 hb; replace BK408 := kB_ BK408 hb; replace BK412 := Aside0.mk (blk_below (g := gb412) (o := .cells #[.int .i64 t410, .int .u64 t411] 34 (0, 0)) (kP_ BK412.out) hb); replace HB := hB_ hb; (try clear hb); (try clear hb2); (try clear hk); (try clear hi)))
                  go_ret
                  exact ⟨r3_, beT_⟩
                rw [if_neg c106] at H
                exact absurd H (by simp)
              rw [if_neg c105] at H
              exact absurd H (by simp)
            rw [if_neg c104] at H
            exact absurd H (by simp)
          rw [if_neg c69] at H
          exact absurd H (by simp)
        rw [if_neg c66] at H
        have c66b0 : (t402 == 0) = false := beq_eq_false_iff_ne.mpr c66
        have c66b1 : (t402 != 0) = true := bne_iff_ne.mpr c66
        by_cases c140 : t401.toList = ([] : List UInt8)
        · rw [if_pos c140] at H
          have c140b0 : (t401.toList == ([] : List UInt8)) = true := beq_iff_eq.mpr c140
          have c140b1 : (t401.toList != ([] : List UInt8)) = false := bne_eq_false_iff_eq.mpr c140
          clear c140
          replace H := Option.bind_eq_some_iff.mp H
          obtain ⟨t415, A1410, H⟩ := H
          have A141 := Aside0.mk A1410
          clear A1410
          obtain rfl := Option.some.inj H
          have hnb142 := NB386_392.out
          have hnc142 := NB392_386.out
          have hnb143 := NB386_396.out
          have hnc143 := NB396_386.out
          have hnb144 := NB386_400.out
          have hnc144 := NB400_386.out
          obtain ⟨hcz145_0, hcz145_1, hcz145_2, hcz145_3, hfz145_0, hfz145_1, hfz145_2, hfz145_3⟩ := b4_ BK386.out
          go_wp2_with (first | ((with_reducible refine gate_callee (f := 13) rfl ?_); refine gL_ (some 73) Try.func13 #[.agg #[.slice A0_0 l0_0.length c0_0, .slice A0_1 l0_1.length c0_1, .int .u64 a0_2, .slice A0_3 l0_3.length c0_3], .int .u32 a1, .int .u32 ((((a2) % 4294967296) + ((a3) % 4294967296)) % 4294967296)] ?_; (with_reducible refine (gmem_Bytes.calls _ _ l0_0 _ _ l0_1 a0_2 _ _ l0_3 a1 ((((a2) % 4294967296) + ((a3) % 4294967296)) % 4294967296) t401 t402 t403 _ ?side1 ?side2 ?side3 ?side4 ?side5 ?side6 A65.out).mono ?_); (case side1 => exact cT_ (Kd.C_below HR0_0.out HB.out)); (case side2 => exact HC0_0.out); (case side3 => exact cT_ (Kd.C_below HR0_1.out HB.out)); (case side4 => exact HC0_1.out); (case side5 => exact cT_ (Kd.C_below HR0_3.out HB.out)); (case side6 => exact HC0_3.out); rintro e w146 ⟨rfl, hb⟩; refine ⟨_, rfl, ?_⟩; replace BK386 := kB_ BK386 hb; replace BK392 := kB_ BK392 hb; replace BK396 := kB_ BK396 hb; replace BK400 := kB_ BK400 hb; replace HB := hB_ hb; (try clear hb); (try clear hb2); (try clear hk); (try clear hi)) | ((with_reducible refine gate_dst (N := 16) rfl ?_); refine bE_ 16 #[.int .i64 0, .int .u64 0] 34 ?_; intro gb404 hg w147 hbox hb; have BK404 := Aside0.mk hbox; have GW404 := geT_ w.heap.size hg; have GE404 := geT_ w.heap.size hg; have NB386_404 := nlT_ BK386.out hg; have NB404_386 := ngT_ BK386.out hg; have NB392_404 := nlT_ BK392.out hg; have NB404_392 := ngT_ BK392.out hg; have NB396_404 := nlT_ BK396.out hg; have NB404_396 := ngT_ BK396.out hg; have NB400_404 := nlT_ BK400.out hg; have NB404_400 := ngT_ BK400.out hg; replace BK386 := kB_ BK386 hb; replace BK392 := kB_ BK392 hb; replace BK396 := kB_ BK396 hb; replace BK400 := kB_ BK400 hb; replace HB := hB_ hb; clear hb hbox hg; have hnb148 := NB404_386.out; have hnc148 := NB386_404.out; have hnb149 := NB404_392.out; have hnc149 := NB392_404.out; have hnb150 := NB404_396.out; have hnc150 := NB396_404.out; have hnb151 := NB404_400.out; have hnc151 := NB400_404.out; obtain ⟨hcz152_0, hcz152_1, hfz152_0, hfz152_1⟩ := b2_ BK404.out) | (go_at_call 10; (with_reducible refine (ferrylaw05_awake.calls kj9  t415 _ A141.out).mono ?_); rintro e w153 ⟨rfl, hb⟩; replace BK386 := kB_ BK386 hb; replace BK392 := kB_ BK392 hb; replace BK396 := kB_ BK396 hb; replace BK400 := kB_ BK400 hb; replace BK404 := Aside0.mk (blk_below (g := gb404) (o := .cells #[.int .i64 t402, .int .u64 t403] 34 (0, 0)) (kP_ BK404.out) hb); replace HB := hB_ hb; (try clear hb); (try clear hb2); (try clear hk); (try clear hi)))
          go_ret
          exact ⟨r3_, beT_⟩
        rw [if_neg c140] at H
        exact absurd H (by simp)
  replace c6 := Bool.eq_false_iff.mpr c6
  subst c6
  replace H := hN_ H
  replace H := Option.bind_eq_some_iff.mp H
  obtain ⟨t388, A1540, H⟩ := H
  have A154 := Aside0.mk A1540
  clear A1540
  obtain rfl := Option.some.inj H
  go_enter Try.func4, Try.ntmps4
  go_wp2_with (first | ((with_reducible refine gate_dst (N := 4) rfl ?_); refine bE_ 4 #[.slice A0_0 l0_0.length c0_0, .slice A0_1 l0_1.length c0_1, .int .u64 a0_2, .slice A0_3 l0_3.length c0_3] 29 ?_; intro gb386 hg w155 hbox hb; have BK386 := Aside0.mk hbox; have GW386 := geT_ w.heap.size hg; have GE386 := geT_ w.heap.size hg; replace HB := hB_ hb; clear hb hbox hg; obtain ⟨hcz156_0, hcz156_1, hcz156_2, hcz156_3, hfz156_0, hfz156_1, hfz156_2, hfz156_3⟩ := b4_ BK386.out) | ((with_reducible refine gate_callee (f := 9) rfl ?_); refine gL_ (some 22) Try.func9 #[.agg #[.slice A0_0 l0_0.length c0_0, .slice A0_1 l0_1.length c0_1, .int .u64 a0_2, .slice A0_3 l0_3.length c0_3]] ?_; (with_reducible refine (ferrylaw05_few.calls k _ _ l0_0 _ _ l0_1 a0_2 _ _ l0_3 false _ ?side1 ?side2 ?side3 ?side4 ?side5 ?side6 A5.out).mono ?_); (case side1 => exact cT_ (Kd.C_below HR0_0.out HB.out)); (case side2 => exact HC0_0.out); (case side3 => exact cT_ (Kd.C_below HR0_1.out HB.out)); (case side4 => exact HC0_1.out); (case side5 => exact cT_ (Kd.C_below HR0_3.out HB.out)); (case side6 => exact HC0_3.out); rintro e w157 ⟨rfl, hb⟩; refine ⟨_, rfl, ?_⟩; replace BK386 := kB_ BK386 hb; replace HB := hB_ hb; (try clear hb); (try clear hb2); (try clear hk); (try clear hi)) | ((with_reducible refine gate_callee (f := 10) rfl ?_); refine gL_ (some 24) Try.func10 #[] ?_; (with_reducible refine (ferrylaw05_awake.calls k  t388 _ A154.out).mono ?_); rintro e w158 ⟨rfl, hb⟩; refine ⟨_, rfl, ?_⟩; replace BK386 := kB_ BK386 hb; replace HB := hB_ hb; (try clear hb); (try clear hb2); (try clear hk); (try clear hi)))
  go_ret
  exact ⟨r3_, beT_⟩

end Go.Proofs.Ytgkjdpdmmlalcaa.F
end
