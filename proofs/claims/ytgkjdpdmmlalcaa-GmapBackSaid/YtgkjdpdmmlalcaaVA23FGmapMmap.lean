import Derived.Test.YtgkjdpdmmlalcaaVZF0
import Derived.Test.YtgkjdpdmmlalcaaVA0
import Derived.Test.YtgkjdpdmmlalcaaVA4HHost3
import Derived.Test.YtgkjdpdmmlalcaaVA7
import Derived.Test.YtgkjdpdmmlalcaaVA9
import Derived.Test.YtgkjdpdmmlalcaaVA11
import Derived.Test.YtgkjdpdmmlalcaaVA13
import Derived.Test.YtgkjdpdmmlalcaaVA14HGuest4
import Derived.Test.YtgkjdpdmmlalcaaVA16HGuest7
import Derived.Test.YtgkjdpdmmlalcaaVA17
import Derived.Test.YtgkjdpdmmlalcaaVA19
import Derived.Test.YtgkjdpdmmlalcaaVA22
section
namespace Go.Proofs.Ytgkjdpdmmlalcaa.F
open Go.RowKit Go.Proofs.YtgkjdpdmmlalcaaW.PrintWords Go.Proofs.YtgkjdpdmmlalcaaW.PrintLast Go.Proofs.YtgkjdpdmmlalcaaW.PrintMore
attribute [local go_sem] max2_int min2_int max_two min_two max_three min_three max_four min_four
attribute [local go_sem] cell_twice
set_option linter.unusedVariables false
set_option linter.unusedSimpArgs false

mutual
def gmap_Mmap.j0 : Nat → Int → Int → Int → Bool → Bool → List (S83) → List (S88) → Int → List (S41) → Int → Int → Option ((List (S83)) × (List (S88)) × Int × (List (S41)) × Int × Int × Int × Int)
  | 0, _, _, _, _, _, _, _, _, _, _, _ => none
  | k + 1, x1, x2, x3, x4, x32, x728000, x728001, x728002, x728003, x728004, x728005 => if x32 = true then (some (x728000, x728001, x728002, x728003, x728004, x728005, 0, 22)) else ((gmap_count.f x2).bind fun t729 => (if t729 > 256 then (gmap_Mmap.j1 k x1 x3 x4 t729 ((Int.tdiv x1 4096) % 4294967296) true x728000 x728001 x728002 x728003 x728004 x728005) else (if x4 = true then (gmap_Mmap.j1 k x1 x3 x4 t729 ((Int.tdiv x1 4096) % 4294967296) (decide (((((Int.tdiv x1 4096) % 4294967296) + t729) % 4294967296) > 1048576)) x728000 x728001 x728002 x728003 x728004 x728005) else (gmap_Mmap.j1 k x1 x3 x4 t729 ((Int.tdiv x1 4096) % 4294967296) false x728000 x728001 x728002 x728003 x728004 x728005))))
def gmap_Mmap.j1 : Nat → Int → Int → Bool → Int → Int → Bool → List (S83) → List (S88) → Int → List (S41) → Int → Int → Option ((List (S83)) × (List (S88)) × Int × (List (S41)) × Int × Int × Int × Int)
  | 0, _, _, _, _, _, _, _, _, _, _, _, _ => none
  | k + 1, x1, x3, x4, x13, x14, x48, x728000, x728001, x728002, x728003, x728004, x728005 => if x48 = true then (some (x728000, x728001, x728002, x728003, x728004, x728005, 0, 12)) else (if x4 = true then (gmap_Mmap.j2 k x3 x13 x14 false x728000 x728001 x728002 x728003 x728004 x728005) else ((gmap_hint.f x728000 x728001 x728002 x728003 x728004 x728005 x1 x13).bind fun t730 => (gmap_Mmap.j2 k x3 x13 x14 (!t730) x728000 x728001 x728002 x728003 x728004 x728005)))
def gmap_Mmap.j2 : Nat → Int → Int → Int → Bool → List (S83) → List (S88) → Int → List (S41) → Int → Int → Option ((List (S83)) × (List (S88)) × Int × (List (S41)) × Int × Int × Int × Int)
  | 0, _, _, _, _, _, _, _, _, _, _ => none
  | k + 1, x3, x13, x14, x58, x728000, x728001, x728002, x728003, x728004, x728005 => if x58 = true then ((gmap_free.f x728000 x728001 x728002 x728003 x728004 x728005 x13).bind fun bt731 => (if bt731.2 = true then ((guest_Map.f x728000 x728001 x728002 x728003 bt731.1 x13 x3).bind fun bt733 => (if bt733.2.2.2.2 = 0 then (some (bt733.1, bt733.2.1, bt733.2.2.1, bt733.2.2.2.1, x728004, x728005, (bt731.1 * 4096) % 4294967296, 0)) else (some (x728000, x728001, x728002, x728003, x728004, x728005, 0, bt733.2.2.2.2)))) else (some (x728000, x728001, x728002, x728003, x728004, x728005, 0, 12)))) else ((guest_Map.f x728000 x728001 x728002 x728003 x14 x13 x3).bind fun bt745 => (if bt745.2.2.2.2 = 0 then (some (bt745.1, bt745.2.1, bt745.2.2.1, bt745.2.2.2.1, x728004, x728005, (x14 * 4096) % 4294967296, 0)) else (some (x728000, x728001, x728002, x728003, x728004, x728005, 0, bt745.2.2.2.2))))
end
def gmap_Mmap.f (k : Nat) (l0_0 : List (S83)) (l0_1 : List (S88)) (a0_2 : Int) (l0_3 : List (S41)) (a0_4 : Int) (a0_5 : Int) (a1 : Int) (a2 : Int) (a3 : Int) (a4 : Bool) : Option ((List (S83)) × (List (S88)) × Int × (List (S41)) × Int × Int × Int × Int) := if a2 = 0 then (gmap_Mmap.j0 k a1 a2 a3 a4 true l0_0 l0_1 a0_2 l0_3 a0_4 a0_5) else (if (Go.bits .andNot .i64 a3 7) = 0 then (if a4 = true then (gmap_Mmap.j0 k a1 a2 a3 a4 ((Int.tmod a1 4096) != 0) l0_0 l0_1 a0_2 l0_3 a0_4 a0_5) else (gmap_Mmap.j0 k a1 a2 a3 a4 false l0_0 l0_1 a0_2 l0_3 a0_4 a0_5)) else (gmap_Mmap.j0 k a1 a2 a3 a4 true l0_0 l0_1 a0_2 l0_3 a0_4 a0_5))
theorem gmap_Mmap.mono_l : ∀ k, (∀ y0 y1 y2 y3 y4 y5 y6 y7 y8 y9 y10, LeO (gmap_Mmap.j0 k y0 y1 y2 y3 y4 y5 y6 y7 y8 y9 y10) (gmap_Mmap.j0 (k + 1) y0 y1 y2 y3 y4 y5 y6 y7 y8 y9 y10)) ∧ (∀ y0 y1 y2 y3 y4 y5 y6 y7 y8 y9 y10 y11, LeO (gmap_Mmap.j1 k y0 y1 y2 y3 y4 y5 y6 y7 y8 y9 y10 y11) (gmap_Mmap.j1 (k + 1) y0 y1 y2 y3 y4 y5 y6 y7 y8 y9 y10 y11)) ∧ (∀ y0 y1 y2 y3 y4 y5 y6 y7 y8 y9, LeO (gmap_Mmap.j2 k y0 y1 y2 y3 y4 y5 y6 y7 y8 y9) (gmap_Mmap.j2 (k + 1) y0 y1 y2 y3 y4 y5 y6 y7 y8 y9))
  | 0 => ⟨fun _ _ _ _ _ _ _ _ _ _ _ r h => by simp [gmap_Mmap.j0] at h, fun _ _ _ _ _ _ _ _ _ _ _ _ r h => by simp [gmap_Mmap.j1] at h, fun _ _ _ _ _ _ _ _ _ _ r h => by simp [gmap_Mmap.j2] at h⟩
  | k + 1 => by
    obtain ⟨ih0, ih1, ih2⟩ := gmap_Mmap.mono_l k
    refine ⟨?_, ?_, ?_⟩
    · intro y0 y1 y2 y3 y4 y5 y6 y7 y8 y9 y10
      unfold gmap_Mmap.j0
      exact moT_
    · intro y0 y1 y2 y3 y4 y5 y6 y7 y8 y9 y10 y11
      unfold gmap_Mmap.j1
      exact moT_
    · intro y0 y1 y2 y3 y4 y5 y6 y7 y8 y9
      unfold gmap_Mmap.j2
      exact moT_
theorem gmap_Mmap.mono : ∀ a0 a1 a2 a3 a4 a5 a6 a7 a8 a9 k, LeO (gmap_Mmap.f k a0 a1 a2 a3 a4 a5 a6 a7 a8 a9) (gmap_Mmap.f (k + 1) a0 a1 a2 a3 a4 a5 a6 a7 a8 a9) := by
  intro a0 a1 a2 a3 a4 a5 a6 a7 a8 a9 k
  obtain ⟨ih0, ih1, ih2⟩ := gmap_Mmap.mono_l k
  unfold gmap_Mmap.f
  exact moT_
set_option maxHeartbeats 8000000 in
set_option maxRecDepth 100000 in
theorem gmap_Mmap.calls (k : Nat) (P0_0_ : Nat → Prop) (A0_0 : Option Addr) (c0_0 : Nat) (l0_0 : List (S83)) (P0_1_ : Nat → Prop) (A0_1 : Option Addr) (c0_1 : Nat) (l0_1 : List (S88)) (a0_2 : Int) (P0_3_ : Nat → Prop) (A0_3 : Option Addr) (c0_3 : Nat) (l0_3 : List (S41)) (a0_4 : Int) (a0_5 : Int) (a1 : Int) (a2 : Int) (a3 : Int) (a4 : Bool) (r1 : List (S83)) (r2 : List (S88)) (r3 : Int) (r4 : List (S41)) (r5 : Int) (r6 : Int) (r7 : Int) (r8 : Int) (w : World) (hs0_0 : Kd.V k83 83 w w.heap.size (fun k_ => P0_0_ k_) (.slice A0_0 l0_0.length c0_0) l0_0) (hs0_1 : Kd.V k88 88 w w.heap.size (fun k_ => P0_1_ k_) (.slice A0_1 l0_1.length c0_1) l0_1) (hs0_3 : Kd.V k41 41 w w.heap.size (fun k_ => P0_3_ k_) (.slice A0_3 l0_3.length c0_3) l0_3) (h : gmap_Mmap.f k l0_0 l0_1 a0_2 l0_3 a0_4 a0_5 a1 a2 a3 a4 = some (r1, r2, r3, r4, r5, r6, r7, r8)) :
    Calls Try.prog 36 #[.agg #[.slice A0_0 l0_0.length c0_0, .slice A0_1 l0_1.length c0_1, .int .u64 a0_2, .slice A0_3 l0_3.length c0_3, .int .u32 a0_4, .int .u32 a0_5], .int .u32 a1, .int .u32 a2, .int .i64 a3, .bool a4] w fun e w' => ∃ v0_ v1_ v3_ : Value, e = .returned (.tuple #[.agg #[v0_, v1_, .int .u64 r3, v3_, .int .u32 r5, .int .u32 r6], .int .u32 r7, .int .i64 r8]) ∧ Kd.V k83 83 w' w.heap.size (fun k_ => ((P0_0_ k_ ∨ P0_1_ k_ ∨ P0_3_ k_) ∨ w.heap.size ≤ k_)) v0_ r1 ∧ Kd.V k88 88 w' w.heap.size (fun k_ => ((P0_0_ k_ ∨ P0_1_ k_ ∨ P0_3_ k_) ∨ w.heap.size ≤ k_)) v1_ r2 ∧ Kd.V k41 41 w' w.heap.size (fun k_ => ((P0_0_ k_ ∨ P0_1_ k_ ∨ P0_3_ k_) ∨ w.heap.size ≤ k_)) v3_ r4 ∧ Below w.heap.size w w' := by
  have hu63 := Try.underlying63
  have hu29 := Try.underlying29
  have HO0_0 := Aside0.mk (show Kd.V k83 83 w w.heap.size (fun k_ => ((P0_0_ k_ ∨ P0_1_ k_ ∨ P0_3_ k_) ∨ w.heap.size ≤ k_)) (.slice A0_0 l0_0.length c0_0) l0_0 from Kd.V_mono hs0_0 (fun k_ hk => .inl (.inl hk)))
  have HO0_1 := Aside0.mk (show Kd.V k88 88 w w.heap.size (fun k_ => ((P0_0_ k_ ∨ P0_1_ k_ ∨ P0_3_ k_) ∨ w.heap.size ≤ k_)) (.slice A0_1 l0_1.length c0_1) l0_1 from Kd.V_mono hs0_1 (fun k_ hk => .inl (.inr (.inl hk))))
  have HO0_3 := Aside0.mk (show Kd.V k41 41 w w.heap.size (fun k_ => ((P0_0_ k_ ∨ P0_1_ k_ ∨ P0_3_ k_) ∨ w.heap.size ≤ k_)) (.slice A0_3 l0_3.length c0_3) l0_3 from Kd.V_mono hs0_3 (fun k_ hk => .inl (.inr (.inr hk))))
  have HB := Aside0.mk (Below.refl w.heap.size w)
  have H : (if a2 = 0 then (gmap_Mmap.j0 k a1 a2 a3 a4 true l0_0 l0_1 a0_2 l0_3 a0_4 a0_5) else (if (Go.bits .andNot .i64 a3 7) = 0 then (if a4 = true then (gmap_Mmap.j0 k a1 a2 a3 a4 ((Int.tmod a1 4096) != 0) l0_0 l0_1 a0_2 l0_3 a0_4 a0_5) else (gmap_Mmap.j0 k a1 a2 a3 a4 false l0_0 l0_1 a0_2 l0_3 a0_4 a0_5)) else (gmap_Mmap.j0 k a1 a2 a3 a4 true l0_0 l0_1 a0_2 l0_3 a0_4 a0_5))) = some (r1, r2, r3, r4, r5, r6, r7, r8) := h
  clear h
  have HC6 := Aside0.mk H
  clear H
  go_enter Try.func36, Try.ntmps36
  go_upto_region 1 with (first | ((with_reducible refine gate_dst (N := 5) rfl ?_); refine bE_ 5 #[.slice A0_0 l0_0.length c0_0, .slice A0_1 l0_1.length c0_1, .int .u64 a0_2, .slice A0_3 l0_3.length c0_3, .int .u32 a0_4, .int .u32 a0_5] 63 ?_; intro gb727 hg w7 hbox hb; have BK727 := Aside0.mk hbox; have GW727 := geT_ w.heap.size hg; have GE727 := geT_ w.heap.size hg; replace HO0_0 := vE_ HO0_0.out hg hb; replace HO0_1 := vE_ HO0_1.out hg hb; replace HO0_3 := vE_ HO0_3.out hg hb; replace HB := hB_ hb; clear hb hbox hg) | ((with_reducible refine gate_dst (N := 10) rfl ?_); refine bE_ 10 #[.slice none 0 0, .slice none 0 0, .int .u64 0, .slice none 0 0, .int .u32 0, .int .u32 0] 63 ?_; intro gb728 hg w8 hbox hb; have BK728 := Aside0.mk hbox; have GW728 := geT_ w.heap.size hg; have GE728 := geT_ w.heap.size hg; have NB727_728 := nlT_ BK727.out hg; have NB728_727 := ngT_ BK727.out hg; replace HO0_0 := vE_ HO0_0.out hg hb; replace HO0_1 := vE_ HO0_1.out hg hb; replace HO0_3 := vE_ HO0_3.out hg hb; replace BK727 := kB_ BK727 hb; replace HB := hB_ hb; clear hb hbox hg))
  (try simp only [Act.put, List.setIfInBounds_toArray, List.set_cons_zero, List.set_cons_succ])
  go_cut [32] (fun v32 wc => ∃ (kq : Nat) (x32_5 : Bool), v32 = .bool x32_5 ∧ Aside0 (gmap_Mmap.j0 kq a1 a2 a3 a4 x32_5 l0_0 l0_1 a0_2 l0_3 a0_4 a0_5 = some (r1, r2, r3, r4, r5, r6, r7, r8)) ∧ Aside0 (kq ≤ k) ∧ Aside0 (Kd.V k83 83 wc w.heap.size (fun k_ => ((P0_0_ k_ ∨ P0_1_ k_ ∨ P0_3_ k_) ∨ w.heap.size ≤ k_) ∧ k_ ≠ gb727 ∧ k_ ≠ gb728) (.slice A0_0 l0_0.length c0_0) l0_0) ∧ Aside0 (Kd.V k88 88 wc w.heap.size (fun k_ => ((P0_0_ k_ ∨ P0_1_ k_ ∨ P0_3_ k_) ∨ w.heap.size ≤ k_) ∧ k_ ≠ gb727 ∧ k_ ≠ gb728) (.slice A0_1 l0_1.length c0_1) l0_1) ∧ Aside0 (Kd.V k41 41 wc w.heap.size (fun k_ => ((P0_0_ k_ ∨ P0_1_ k_ ∨ P0_3_ k_) ∨ w.heap.size ≤ k_) ∧ k_ ≠ gb727 ∧ k_ ≠ gb728) (.slice A0_3 l0_3.length c0_3) l0_3) ∧ Aside0 (wc.heap[gb727]? = some (.cells #[(.slice A0_0 l0_0.length c0_0), (.slice A0_1 l0_1.length c0_1), .int .u64 a0_2, (.slice A0_3 l0_3.length c0_3), .int .u32 a0_4, .int .u32 a0_5] 63 (0, 0))) ∧ Aside0 (wc.heap[gb728]? = some (.cells #[(.slice none 0 0), (.slice none 0 0), .int .u64 0, (.slice none 0 0), .int .u32 0, .int .u32 0] 63 (0, 0))) ∧ Aside0 (Below w.heap.size w wc))
  case first =>
    have H := HC6.out
    clear HC6
    by_cases c9 : a2 = 0
    · rw [if_pos c9] at H
      have c9b0 : (a2 == 0) = true := beq_iff_eq.mpr c9
      have c9b1 : (a2 != 0) = false := bne_eq_false_iff_eq.mpr c9
      clear c9
      (first | rw [c9b0] | (simp only [i64_w, i32_w]; rw [c9b0]) | skip)
      have H' := Aside0.mk H
      clear H
      go_wp2
      go_meet
      case rel => exact ⟨_, (true), r1_, H', ⟨r2_⟩, ⟨vM_ HO0_0.out⟩, ⟨vM_ HO0_1.out⟩, ⟨vM_ HO0_3.out⟩, ⟨bT_ BK727.out⟩, ⟨bT_ BK728.out⟩, ⟨beT_⟩⟩
    rw [if_neg c9] at H
    have c9b0 : (a2 == 0) = false := beq_eq_false_iff_ne.mpr c9
    have c9b1 : (a2 != 0) = true := bne_iff_ne.mpr c9
    (first | rw [c9b0] | (simp only [i64_w, i32_w]; rw [c9b0]) | skip)
    by_cases c10 : (Go.bits .andNot .i64 a3 7) = 0
    · rw [if_pos c10] at H
      have c10b0 : ((Go.bits .andNot .i64 a3 7) == 0) = true := beq_iff_eq.mpr c10
      have c10b1 : ((Go.bits .andNot .i64 a3 7) != 0) = false := bne_eq_false_iff_eq.mpr c10
      clear c10
      by_cases c11 : a4 = true
      · subst c11
        replace H := hP_ H
        have H' := Aside0.mk H
        clear H
        go_wp2
        go_meet
        case rel => exact ⟨_, (((Int.tmod a1 4096) != 0)), r1_, H', ⟨r2_⟩, ⟨vM_ HO0_0.out⟩, ⟨vM_ HO0_1.out⟩, ⟨vM_ HO0_3.out⟩, ⟨bT_ BK727.out⟩, ⟨bT_ BK728.out⟩, ⟨beT_⟩⟩
      replace c11 := Bool.eq_false_iff.mpr c11
      subst c11
      replace H := hN_ H
      have H' := Aside0.mk H
      clear H
      go_wp2
      go_meet
      case rel => exact ⟨_, (false), r1_, H', ⟨r2_⟩, ⟨vM_ HO0_0.out⟩, ⟨vM_ HO0_1.out⟩, ⟨vM_ HO0_3.out⟩, ⟨bT_ BK727.out⟩, ⟨bT_ BK728.out⟩, ⟨beT_⟩⟩
    rw [if_neg c10] at H
    have c10b0 : ((Go.bits .andNot .i64 a3 7) == 0) = false := beq_eq_false_iff_ne.mpr c10
    have c10b1 : ((Go.bits .andNot .i64 a3 7) != 0) = true := bne_iff_ne.mpr c10
    have H' := Aside0.mk H
    clear H
    go_wp2
    go_meet
    case rel => exact ⟨_, (true), r1_, H', ⟨r2_⟩, ⟨vM_ HO0_0.out⟩, ⟨vM_ HO0_1.out⟩, ⟨vM_ HO0_3.out⟩, ⟨bT_ BK727.out⟩, ⟨bT_ BK728.out⟩, ⟨beT_⟩⟩
  case rest =>
    clear HC6
    try clear c1
    try clear p2
    try clear c3
    try clear c9
    try clear c9b0
    try clear c9b1
    try clear c10
    try clear c10b0
    try clear c10b1
    try clear c11
    obtain ⟨kq, x32_5, rfl, HA, HJ5, HO_728000, HO_728001, HO_728003, BK727, BK728, HB⟩ := hcut
    cases kq with
    | zero => exact absurd HA.out (by simp [gmap_Mmap.j0])
    | succ kj5 =>
      have H := HA.out
      clear HA
      simp only [gmap_Mmap.j0] at H
      by_cases c12 : x32_5 = true
      · subst c12
        replace H := hP_ H
        simp only [Option.some.injEq, Prod.mk.injEq] at H
        obtain ⟨rfl, rfl, rfl, rfl, rfl, rfl, rfl, rfl⟩ := H
        have hnb13 := NB727_728.out
        have hnc13 := NB728_727.out
        obtain ⟨hcz14_0, hcz14_1, hcz14_2, hcz14_3, hcz14_4, hcz14_5, hfz14_0, hfz14_1, hfz14_2, hfz14_3, hfz14_4, hfz14_5⟩ := b6_ BK727.out
        obtain ⟨hcz15_0, hcz15_1, hcz15_2, hcz15_3, hcz15_4, hcz15_5, hfz15_0, hfz15_1, hfz15_2, hfz15_3, hfz15_4, hfz15_5⟩ := b6_ BK728.out
        go_wp2
        refine bodyPost_ret (results_ctt rfl _ _ gb728 63 #[.slice A0_0 l0_0.length c0_0, .slice A0_1 l0_1.length c0_1, .int .u64 a0_2, .slice A0_3 l0_3.length c0_3, .int .u32 a0_4, .int .u32 a0_5] (0, 0) _ rfl (kP_ BK728.out) Try.underlying63 rfl (by kernel_rfl)) rfl ?_
        exact ⟨_, _, _, r3_, (vF_ HO_728000.out), (vF_ HO_728001.out), (vF_ HO_728003.out), beT_⟩
      replace c12 := Bool.eq_false_iff.mpr c12
      subst c12
      replace H := hN_ H
      replace H := Option.bind_eq_some_iff.mp H
      obtain ⟨t729, A160, H⟩ := H
      have A16 := Aside0.mk A160
      clear A160
      have HC17 := Aside0.mk H
      clear H
      go_upto_region 4 with (first | ((with_reducible refine gate_callee (f := 62) rfl ?_); refine gL_ (some 35) Try.func62 #[.int .u32 a2] ?_; (with_reducible refine (gmap_count.calls a2 t729 _ A16.out).mono ?_); rintro e w' ⟨rfl, ⟨nd, rfl⟩⟩; refine ⟨_, rfl, ?_⟩))
      (try simp only [Act.put, List.setIfInBounds_toArray, List.set_cons_zero, List.set_cons_succ])
      go_cut [48] (fun v48 wc => ∃ (kq : Nat) (x48_16 : Bool), v48 = .bool x48_16 ∧ Aside0 (gmap_Mmap.j1 kq a1 a3 a4 t729 ((Int.tdiv a1 4096) % 4294967296) x48_16 l0_0 l0_1 a0_2 l0_3 a0_4 a0_5 = some (r1, r2, r3, r4, r5, r6, r7, r8)) ∧ Aside0 (kq ≤ kj5) ∧ Aside0 (Kd.V k83 83 wc w.heap.size (fun k_ => ((P0_0_ k_ ∨ P0_1_ k_ ∨ P0_3_ k_) ∨ w.heap.size ≤ k_) ∧ k_ ≠ gb727 ∧ k_ ≠ gb728) (.slice A0_0 l0_0.length c0_0) l0_0) ∧ Aside0 (Kd.V k88 88 wc w.heap.size (fun k_ => ((P0_0_ k_ ∨ P0_1_ k_ ∨ P0_3_ k_) ∨ w.heap.size ≤ k_) ∧ k_ ≠ gb727 ∧ k_ ≠ gb728) (.slice A0_1 l0_1.length c0_1) l0_1) ∧ Aside0 (Kd.V k41 41 wc w.heap.size (fun k_ => ((P0_0_ k_ ∨ P0_1_ k_ ∨ P0_3_ k_) ∨ w.heap.size ≤ k_) ∧ k_ ≠ gb727 ∧ k_ ≠ gb728) (.slice A0_3 l0_3.length c0_3) l0_3) ∧ Aside0 (wc.heap[gb727]? = some (.cells #[(.slice A0_0 l0_0.length c0_0), (.slice A0_1 l0_1.length c0_1), .int .u64 a0_2, (.slice A0_3 l0_3.length c0_3), .int .u32 a0_4, .int .u32 a0_5] 63 (0, 0))) ∧ Aside0 (wc.heap[gb728]? = some (.cells #[(.slice none 0 0), (.slice none 0 0), .int .u64 0, (.slice none 0 0), .int .u32 0, .int .u32 0] 63 (0, 0))) ∧ Aside0 (Below w.heap.size w wc))
      case first =>
        have H := HC17.out
        clear HC17
        by_cases c18 : t729 > 256
        · rw [if_pos c18] at H
          have c18b0 : decide (256 < t729) = true := decide_eq_true c18
          clear c18
          (first | rw [c18b0] | (simp only [i64_w, i32_w]; rw [c18b0]) | skip)
          have H' := Aside0.mk H
          clear H
          go_wp2
          go_meet
          case rel => exact ⟨_, (true), r1_, H', ⟨by have := HJ5.out; first | omega | exact Nat.le_refl _⟩, ⟨vT_ HO_728000.out⟩, ⟨vT_ HO_728001.out⟩, ⟨vT_ HO_728003.out⟩, ⟨bT_ BK727.out⟩, ⟨bT_ BK728.out⟩, ⟨beT_⟩⟩
        rw [if_neg c18] at H
        have c18b0 : decide (256 < t729) = false := decide_eq_false c18
        clear c18
        (first | rw [c18b0] | (simp only [i64_w, i32_w]; rw [c18b0]) | skip)
        by_cases c19 : a4 = true
        · subst c19
          replace H := hP_ H
          have H' := Aside0.mk H
          clear H
          go_wp2
          go_meet
          case rel => exact ⟨_, (decide (((((Int.tdiv a1 4096) % 4294967296) + t729) % 4294967296) > 1048576)), r1_, H', ⟨by have := HJ5.out; first | omega | exact Nat.le_refl _⟩, ⟨vT_ HO_728000.out⟩, ⟨vT_ HO_728001.out⟩, ⟨vT_ HO_728003.out⟩, ⟨bT_ BK727.out⟩, ⟨bT_ BK728.out⟩, ⟨beT_⟩⟩
        replace c19 := Bool.eq_false_iff.mpr c19
        subst c19
        replace H := hN_ H
        have H' := Aside0.mk H
        clear H
        go_wp2
        go_meet
        case rel => exact ⟨_, (false), r1_, H', ⟨by have := HJ5.out; first | omega | exact Nat.le_refl _⟩, ⟨vT_ HO_728000.out⟩, ⟨vT_ HO_728001.out⟩, ⟨vT_ HO_728003.out⟩, ⟨bT_ BK727.out⟩, ⟨bT_ BK728.out⟩, ⟨beT_⟩⟩
      case rest =>
        clear HC17
        try clear c1
        try clear p2
        try clear c3
        try clear c6
        try clear c9
        try clear c9b0
        try clear c9b1
        try clear c10
        try clear c10b0
        try clear c10b1
        try clear c11
        try clear c12
        try clear c13
        try clear c18
        try clear c18b0
        try clear c19
        try clear hcz14_0
        try clear hcz14_1
        try clear hcz14_2
        try clear hcz14_3
        try clear hcz14_4
        try clear hcz14_5
        try clear hcz15_0
        try clear hcz15_1
        try clear hcz15_2
        try clear hcz15_3
        try clear hcz15_4
        try clear hcz15_5
        try clear hfz14_0
        try clear hfz14_1
        try clear hfz14_2
        try clear hfz14_3
        try clear hfz14_4
        try clear hfz14_5
        try clear hfz15_0
        try clear hfz15_1
        try clear hfz15_2
        try clear hfz15_3
        try clear hfz15_4
        try clear hfz15_5
        try clear p2
        obtain ⟨kq, x48_16, rfl, HA, HJ16, HO_728000, HO_728001, HO_728003, BK727, BK728, HB⟩ := hcut
        cases kq with
        | zero => exact absurd HA.out (by simp [gmap_Mmap.j1])
        | succ kj16 =>
          have H := HA.out
          clear HA
          simp only [gmap_Mmap.j1] at H
          by_cases c20 : x48_16 = true
          · subst c20
            replace H := hP_ H
            simp only [Option.some.injEq, Prod.mk.injEq] at H
            obtain ⟨rfl, rfl, rfl, rfl, rfl, rfl, rfl, rfl⟩ := H
            have hnb21 := NB727_728.out
            have hnc21 := NB728_727.out
            obtain ⟨hcz22_0, hcz22_1, hcz22_2, hcz22_3, hcz22_4, hcz22_5, hfz22_0, hfz22_1, hfz22_2, hfz22_3, hfz22_4, hfz22_5⟩ := b6_ BK727.out
            obtain ⟨hcz23_0, hcz23_1, hcz23_2, hcz23_3, hcz23_4, hcz23_5, hfz23_0, hfz23_1, hfz23_2, hfz23_3, hfz23_4, hfz23_5⟩ := b6_ BK728.out
            go_wp2
            refine bodyPost_ret (results_ctt rfl _ _ gb728 63 #[.slice A0_0 l0_0.length c0_0, .slice A0_1 l0_1.length c0_1, .int .u64 a0_2, .slice A0_3 l0_3.length c0_3, .int .u32 a0_4, .int .u32 a0_5] (0, 0) _ rfl (kP_ BK728.out) Try.underlying63 rfl (by kernel_rfl)) rfl ?_
            exact ⟨_, _, _, r3_, (vF_ HO_728000.out), (vF_ HO_728001.out), (vF_ HO_728003.out), beT_⟩
          replace c20 := Bool.eq_false_iff.mpr c20
          subst c20
          replace H := hN_ H
          have HC24 := Aside0.mk H
          clear H
          go_upto_region 6 with (fail)
          go_cut [58] (fun v58 wc => ∃ (kq : Nat) (x58_23 : Bool), v58 = .bool x58_23 ∧ Aside0 (gmap_Mmap.j2 kq a3 t729 ((Int.tdiv a1 4096) % 4294967296) x58_23 l0_0 l0_1 a0_2 l0_3 a0_4 a0_5 = some (r1, r2, r3, r4, r5, r6, r7, r8)) ∧ Aside0 (kq ≤ kj16) ∧ Aside0 (Kd.V k83 83 wc w.heap.size (fun k_ => ((P0_0_ k_ ∨ P0_1_ k_ ∨ P0_3_ k_) ∨ w.heap.size ≤ k_) ∧ k_ ≠ gb727 ∧ k_ ≠ gb728) (.slice A0_0 l0_0.length c0_0) l0_0) ∧ Aside0 (Kd.V k88 88 wc w.heap.size (fun k_ => ((P0_0_ k_ ∨ P0_1_ k_ ∨ P0_3_ k_) ∨ w.heap.size ≤ k_) ∧ k_ ≠ gb727 ∧ k_ ≠ gb728) (.slice A0_1 l0_1.length c0_1) l0_1) ∧ Aside0 (Kd.V k41 41 wc w.heap.size (fun k_ => ((P0_0_ k_ ∨ P0_1_ k_ ∨ P0_3_ k_) ∨ w.heap.size ≤ k_) ∧ k_ ≠ gb727 ∧ k_ ≠ gb728) (.slice A0_3 l0_3.length c0_3) l0_3) ∧ Aside0 (wc.heap[gb727]? = some (.cells #[(.slice A0_0 l0_0.length c0_0), (.slice A0_1 l0_1.length c0_1), .int .u64 a0_2, (.slice A0_3 l0_3.length c0_3), .int .u32 a0_4, .int .u32 a0_5] 63 (0, 0))) ∧ Aside0 (wc.heap[gb728]? = some (.cells #[(.slice none 0 0), (.slice none 0 0), .int .u64 0, (.slice none 0 0), .int .u32 0, .int .u32 0] 63 (0, 0))) ∧ Aside0 (Below w.heap.size w wc))
          case first =>
            have H := HC24.out
            clear HC24
            by_cases c25 : a4 = true
            · subst c25
              replace H := hP_ H
              have H' := Aside0.mk H
              clear H
              go_wp2
              go_meet
              case rel => exact ⟨_, (false), r1_, H', ⟨by have := HJ5.out; have := HJ16.out; first | omega | exact Nat.le_refl _⟩, ⟨vT_ HO_728000.out⟩, ⟨vT_ HO_728001.out⟩, ⟨vT_ HO_728003.out⟩, ⟨bT_ BK727.out⟩, ⟨bT_ BK728.out⟩, ⟨beT_⟩⟩
            replace c25 := Bool.eq_false_iff.mpr c25
            subst c25
            replace H := hN_ H
            replace H := Option.bind_eq_some_iff.mp H
            obtain ⟨t730, A260, H⟩ := H
            have A26 := Aside0.mk A260
            clear A260
            have H' := Aside0.mk H
            clear H
            have hnb27 := NB727_728.out
            have hnc27 := NB728_727.out
            obtain ⟨hcz28_0, hcz28_1, hcz28_2, hcz28_3, hcz28_4, hcz28_5, hfz28_0, hfz28_1, hfz28_2, hfz28_3, hfz28_4, hfz28_5⟩ := b6_ BK727.out
            go_wp2_with (first | (go_at_call 66; (with_reducible refine (gmap_hint.calls _ _ l0_0 _ _ l0_1 a0_2 _ _ l0_3 a0_4 a0_5 a1 t729 t730 _ ?side1 ?side2 ?side3 ?side4 ?side5 ?side6 A26.out).mono ?_); (case side1 => exact cT_ (Kd.V_reads' HO_728000.out).2.2); (case side2 => exact (Kd.V_reads' HO_728000.out).2.1); (case side3 => exact cT_ (Kd.V_reads' HO_728001.out).2.2); (case side4 => exact (Kd.V_reads' HO_728001.out).2.1); (case side5 => exact cT_ (Kd.V_reads' HO_728003.out).2.2); (case side6 => exact (Kd.V_reads' HO_728003.out).2.1); rintro e w29 ⟨rfl, hb⟩; replace HO_728000 := vB_ HO_728000.out hb; replace HO_728001 := vB_ HO_728001.out hb; replace HO_728003 := vB_ HO_728003.out hb; replace BK727 := kB_ BK727 hb; replace BK728 := kB_ BK728 hb; replace HB := hB_ hb; (try clear hb); (try clear hb2); (try clear hk); (try clear hi)))
            go_meet
            case rel => exact ⟨_, (!t730), r1_, H', ⟨by have := HJ5.out; have := HJ16.out; first | omega | exact Nat.le_refl _⟩, ⟨vT_ HO_728000.out⟩, ⟨vT_ HO_728001.out⟩, ⟨vT_ HO_728003.out⟩, ⟨bT_ BK727.out⟩, ⟨bT_ BK728.out⟩, ⟨beT_⟩⟩
          case rest =>
            clear HC24
            try clear c1
            try clear c2
            try clear p2
            try clear c3
            try clear c6
            try clear c9
            try clear c9b0
            try clear c9b1
            try clear c10
            try clear c10b0
            try clear c10b1
            try clear c11
            try clear c12
            try clear c13
            try clear c18
            try clear c18b0
            try clear c19
            try clear c20
            try clear c21
            try clear c25
            try clear c27
            try clear hcz14_0
            try clear hcz14_1
            try clear hcz14_2
            try clear hcz14_3
            try clear hcz14_4
            try clear hcz14_5
            try clear hcz15_0
            try clear hcz15_1
            try clear hcz15_2
            try clear hcz15_3
            try clear hcz15_4
            try clear hcz15_5
            try clear hcz22_0
            try clear hcz22_1
            try clear hcz22_2
            try clear hcz22_3
            try clear hcz22_4
            try clear hcz22_5
            try clear hcz23_0
            try clear hcz23_1
            try clear hcz23_2
            try clear hcz23_3
            try clear hcz23_4
            try clear hcz23_5
            try clear hcz28_0
            try clear hcz28_1
            try clear hcz28_2
            try clear hcz28_3
            try clear hcz28_4
            try clear hcz28_5
            try clear hfz14_0
            try clear hfz14_1
            try clear hfz14_2
            try clear hfz14_3
            try clear hfz14_4
            try clear hfz14_5
            try clear hfz15_0
            try clear hfz15_1
            try clear hfz15_2
            try clear hfz15_3
            try clear hfz15_4
            try clear hfz15_5
            try clear hfz22_0
            try clear hfz22_1
            try clear hfz22_2
            try clear hfz22_3
            try clear hfz22_4
            try clear hfz22_5
            try clear hfz23_0
            try clear hfz23_1
            try clear hfz23_2
            try clear hfz23_3
            try clear hfz23_4
            try clear hfz23_5
            try clear hfz28_0
            try clear hfz28_1
            try clear hfz28_2
            try clear hfz28_3
            try clear hfz28_4
            try clear hfz28_5
            try clear p2
            obtain ⟨kq, x58_23, rfl, HA, HJ23, HO_728000, HO_728001, HO_728003, BK727, BK728, HB⟩ := hcut
            cases kq with
            | zero => exact absurd HA.out (by simp [gmap_Mmap.j2])
            | succ kj23 =>
              have H := HA.out
              clear HA
              simp only [gmap_Mmap.j2] at H
              by_cases c30 : x58_23 = true
              · subst c30
                replace H := hP_ H
                replace H := Option.bind_eq_some_iff.mp H
                obtain ⟨⟨t731, t732⟩, A310, H⟩ := H
                have A31 := Aside0.mk A310
                clear A310
                by_cases c32 : t732 = true
                · subst c32
                  replace H := hP_ H
                  replace H := Option.bind_eq_some_iff.mp H
                  obtain ⟨⟨t733, t736, t739, t740, t743⟩, A330, H⟩ := H
                  have A33 := Aside0.mk A330
                  clear A330
                  by_cases c34 : t743 = 0
                  · rw [if_pos c34] at H
                    have c34b0 : (t743 == 0) = true := beq_iff_eq.mpr c34
                    have c34b1 : (t743 != 0) = false := bne_eq_false_iff_eq.mpr c34
                    clear c34
                    simp only [Option.some.injEq, Prod.mk.injEq] at H
                    obtain ⟨rfl, rfl, rfl, rfl, rfl, rfl, rfl, rfl⟩ := H
                    have hnb35 := NB727_728.out
                    have hnc35 := NB728_727.out
                    obtain ⟨hcz36_0, hcz36_1, hcz36_2, hcz36_3, hcz36_4, hcz36_5, hfz36_0, hfz36_1, hfz36_2, hfz36_3, hfz36_4, hfz36_5⟩ := b6_ BK727.out
                    go_wp2_with (first | ((with_reducible refine gate_callee (f := 67) rfl ?_); refine gL_ (some 62) Try.func67 #[.agg #[.slice A0_0 l0_0.length c0_0, .slice A0_1 l0_1.length c0_1, .int .u64 a0_2, .slice A0_3 l0_3.length c0_3, .int .u32 a0_4, .int .u32 a0_5], .int .u32 t729] ?_; (with_reducible refine (gmap_free.calls _ _ l0_0 _ _ l0_1 a0_2 _ _ l0_3 a0_4 a0_5 t729 t731 true _ ?side1 ?side2 ?side3 ?side4 ?side5 ?side6 A31.out).mono ?_); (case side1 => exact cT_ (Kd.V_reads' HO_728000.out).2.2); (case side2 => exact (Kd.V_reads' HO_728000.out).2.1); (case side3 => exact cT_ (Kd.V_reads' HO_728001.out).2.2); (case side4 => exact (Kd.V_reads' HO_728001.out).2.1); (case side5 => exact cT_ (Kd.V_reads' HO_728003.out).2.2); (case side6 => exact (Kd.V_reads' HO_728003.out).2.1); rintro e w37 ⟨rfl, hb⟩; refine ⟨_, rfl, ?_⟩; replace HO_728000 := vB_ HO_728000.out hb; replace HO_728001 := vB_ HO_728001.out hb; replace HO_728003 := vB_ HO_728003.out hb; replace BK727 := kB_ BK727 hb; replace BK728 := kB_ BK728 hb; replace HB := hB_ hb; (try clear hb); (try clear hb2); (try clear hk); (try clear hi); obtain ⟨hcz38_0, hcz38_1, hcz38_2, hcz38_3, hcz38_4, hcz38_5, hfz38_0, hfz38_1, hfz38_2, hfz38_3, hfz38_4, hfz38_5⟩ := b6_ BK727.out) | ((with_reducible refine gate_callee (f := 64) rfl ?_); refine gL_ (some 74) Try.func64 #[.agg #[.slice A0_0 l0_0.length c0_0, .slice A0_1 l0_1.length c0_1, .int .u64 a0_2, .slice A0_3 l0_3.length c0_3], .int .u32 t731, .int .u32 t729, .int .i64 a3] ?_; (with_reducible refine (guest_Map.calls (fun k_ => (((P0_0_ k_ ∨ P0_1_ k_ ∨ P0_3_ k_) ∨ w.heap.size ≤ k_) ∧ (k_ ≠ gb727 ∧ k_ ≠ gb728))) _ _ l0_0 (fun k_ => (((P0_0_ k_ ∨ P0_1_ k_ ∨ P0_3_ k_) ∨ w.heap.size ≤ k_) ∧ (k_ ≠ gb727 ∧ k_ ≠ gb728))) _ _ l0_1 a0_2 (fun k_ => (((P0_0_ k_ ∨ P0_1_ k_ ∨ P0_3_ k_) ∨ w.heap.size ≤ k_) ∧ (k_ ≠ gb727 ∧ k_ ≠ gb728))) _ _ l0_3 t731 t729 a3 t733 t736 t739 t740 t743 _ ?side1 ?side2 ?side3 A33.out).mono ?_); (case side1 => first | exact HO_728000.out | exact Kd.V_mono HO_728000.out (fun _ hk => by grind)); (case side2 => first | exact HO_728001.out | exact Kd.V_mono HO_728001.out (fun _ hk => by grind)); (case side3 => first | exact HO_728003.out | exact Kd.V_mono HO_728003.out (fun _ hk => by grind)); rintro e w39 ⟨v734, v737, v741, rfl, ho0, ho1, ho2, hb⟩; refine ⟨_, rfl, ?_⟩; have HO735 := Aside0.mk (Kd.V_lower (Kd.V_mono (ok' := fun k_ => ((P0_0_ k_ ∨ P0_1_ k_ ∨ P0_3_ k_) ∨ w.heap.size ≤ k_) ∧ k_ ≠ gb727 ∧ k_ ≠ gb728) ho0 (fun k_ hk_ => ⟨Or.elim hk_ (fun hs_ => Or.elim hs_ (fun hs_ => hs_.1) (fun hs_ => Or.elim hs_ (fun hs_ => hs_.1) (fun hs_ => hs_.1))) (fun hn_ => (.inr (Nat.le_trans (below_size beT_) hn_))), Or.elim hk_ (fun hs_ => Or.elim hs_ (fun hs_ => hs_.2.1) (fun hs_ => Or.elim hs_ (fun hs_ => hs_.2.1) (fun hs_ => hs_.2.1))) (fun hn_ => (Kd.freshB (g := gb727) (o := .cells #[.slice A0_0 l0_0.length c0_0, .slice A0_1 l0_1.length c0_1, .int .u64 a0_2, .slice A0_3 l0_3.length c0_3, .int .u32 a0_4, .int .u32 a0_5] 63 (0, 0)) (bT_ BK727.out) k_ hn_)), Or.elim hk_ (fun hs_ => Or.elim hs_ (fun hs_ => hs_.2.2) (fun hs_ => Or.elim hs_ (fun hs_ => hs_.2.2) (fun hs_ => hs_.2.2))) (fun hn_ => (Kd.freshB (g := gb728) (o := .cells #[.slice none 0 0, .slice none 0 0, .int .u64 0, .slice none 0 0, .int .u32 0, .int .u32 0] 63 (0, 0)) (bT_ BK728.out) k_ hn_))⟩)) (below_size beT_)); have HO738 := Aside0.mk (Kd.V_lower (Kd.V_mono (ok' := fun k_ => ((P0_0_ k_ ∨ P0_1_ k_ ∨ P0_3_ k_) ∨ w.heap.size ≤ k_) ∧ k_ ≠ gb727 ∧ k_ ≠ gb728) ho1 (fun k_ hk_ => ⟨Or.elim hk_ (fun hs_ => Or.elim hs_ (fun hs_ => hs_.1) (fun hs_ => Or.elim hs_ (fun hs_ => hs_.1) (fun hs_ => hs_.1))) (fun hn_ => (.inr (Nat.le_trans (below_size beT_) hn_))), Or.elim hk_ (fun hs_ => Or.elim hs_ (fun hs_ => hs_.2.1) (fun hs_ => Or.elim hs_ (fun hs_ => hs_.2.1) (fun hs_ => hs_.2.1))) (fun hn_ => (Kd.freshB (g := gb727) (o := .cells #[.slice A0_0 l0_0.length c0_0, .slice A0_1 l0_1.length c0_1, .int .u64 a0_2, .slice A0_3 l0_3.length c0_3, .int .u32 a0_4, .int .u32 a0_5] 63 (0, 0)) (bT_ BK727.out) k_ hn_)), Or.elim hk_ (fun hs_ => Or.elim hs_ (fun hs_ => hs_.2.2) (fun hs_ => Or.elim hs_ (fun hs_ => hs_.2.2) (fun hs_ => hs_.2.2))) (fun hn_ => (Kd.freshB (g := gb728) (o := .cells #[.slice none 0 0, .slice none 0 0, .int .u64 0, .slice none 0 0, .int .u32 0, .int .u32 0] 63 (0, 0)) (bT_ BK728.out) k_ hn_))⟩)) (below_size beT_)); have HO742 := Aside0.mk (Kd.V_lower (Kd.V_mono (ok' := fun k_ => ((P0_0_ k_ ∨ P0_1_ k_ ∨ P0_3_ k_) ∨ w.heap.size ≤ k_) ∧ k_ ≠ gb727 ∧ k_ ≠ gb728) ho2 (fun k_ hk_ => ⟨Or.elim hk_ (fun hs_ => Or.elim hs_ (fun hs_ => hs_.1) (fun hs_ => Or.elim hs_ (fun hs_ => hs_.1) (fun hs_ => hs_.1))) (fun hn_ => (.inr (Nat.le_trans (below_size beT_) hn_))), Or.elim hk_ (fun hs_ => Or.elim hs_ (fun hs_ => hs_.2.1) (fun hs_ => Or.elim hs_ (fun hs_ => hs_.2.1) (fun hs_ => hs_.2.1))) (fun hn_ => (Kd.freshB (g := gb727) (o := .cells #[.slice A0_0 l0_0.length c0_0, .slice A0_1 l0_1.length c0_1, .int .u64 a0_2, .slice A0_3 l0_3.length c0_3, .int .u32 a0_4, .int .u32 a0_5] 63 (0, 0)) (bT_ BK727.out) k_ hn_)), Or.elim hk_ (fun hs_ => Or.elim hs_ (fun hs_ => hs_.2.2) (fun hs_ => Or.elim hs_ (fun hs_ => hs_.2.2) (fun hs_ => hs_.2.2))) (fun hn_ => (Kd.freshB (g := gb728) (o := .cells #[.slice none 0 0, .slice none 0 0, .int .u64 0, .slice none 0 0, .int .u32 0, .int .u32 0] 63 (0, 0)) (bT_ BK728.out) k_ hn_))⟩)) (below_size beT_)); replace HO_728000 := vB_ HO_728000.out hb; replace HO_728001 := vB_ HO_728001.out hb; replace HO_728003 := vB_ HO_728003.out hb; replace BK727 := kB_ BK727 hb; replace BK728 := kB_ BK728 hb; replace HB := hB_ hb; (try clear hb); (try clear hb2); (try clear hk); (try clear hi); (try clear ho0); (try clear ho1); (try clear ho2)) | ((with_reducible refine gate_dst (N := 16) rfl ?_); refine bE_ 16 #[.slice none 0 0, .slice none 0 0, .int .u64 0, .slice none 0 0] 29 ?_; intro gb744 hg w40 hbox hb; have BK744 := Aside0.mk hbox; have GW744 := geT_ w.heap.size hg; have GE744 := geT_ w.heap.size hg; have NB727_744 := nlT_ BK727.out hg; have NB744_727 := ngT_ BK727.out hg; have NB728_744 := nlT_ BK728.out hg; have NB744_728 := ngT_ BK728.out hg; replace HO_728000 := vE_ HO_728000.out hg hb; replace HO_728001 := vE_ HO_728001.out hg hb; replace HO_728003 := vE_ HO_728003.out hg hb; replace HO735 := vE_ HO735.out hg hb; replace HO738 := vE_ HO738.out hg hb; replace HO742 := vE_ HO742.out hg hb; replace BK727 := kB_ BK727 hb; replace BK728 := kB_ BK728 hb; replace HB := hB_ hb; clear hb hbox hg; obtain ⟨Ao41, co41, eo41⟩ := Kd.V_slice HO735.out; subst eo41; have hnb42 := NB744_727.out; have hnc42 := NB727_744.out; have hnb43 := NB744_728.out; have hnc43 := NB728_744.out; obtain ⟨hcz44_0, hcz44_1, hcz44_2, hcz44_3, hfz44_0, hfz44_1, hfz44_2, hfz44_3⟩ := b4_ BK744.out; obtain ⟨Ao45, co45, eo45⟩ := Kd.V_slice HO738.out; subst eo45; obtain ⟨Ao46, co46, eo46⟩ := Kd.V_slice HO742.out; subst eo46; obtain ⟨hcz47_0, hcz47_1, hcz47_2, hcz47_3, hcz47_4, hcz47_5, hfz47_0, hfz47_1, hfz47_2, hfz47_3, hfz47_4, hfz47_5⟩ := b6_ BK727.out; obtain ⟨hcz48_0, hcz48_1, hcz48_2, hcz48_3, hcz48_4, hcz48_5, hfz48_0, hfz48_1, hfz48_2, hfz48_3, hfz48_4, hfz48_5⟩ := b6_ BK728.out))
                    refine bodyPost_ret (results_ctt rfl _ _ gb728 63 #[.slice Ao41 t733.length co41, .slice Ao45 t736.length co45, .int .u64 t739, .slice Ao46 t740.length co46, .int .u32 a0_4, .int .u32 a0_5] (0, 0) _ rfl (kP_ BK728.out) Try.underlying63 rfl (by kernel_rfl)) rfl ?_
                    exact ⟨_, _, _, r3_, (vF_ HO735.out), (vF_ HO738.out), (vF_ HO742.out), beT_⟩
                  rw [if_neg c34] at H
                  have c34b0 : (t743 == 0) = false := beq_eq_false_iff_ne.mpr c34
                  have c34b1 : (t743 != 0) = true := bne_iff_ne.mpr c34
                  simp only [Option.some.injEq, Prod.mk.injEq] at H
                  obtain ⟨rfl, rfl, rfl, rfl, rfl, rfl, rfl, rfl⟩ := H
                  have hnb49 := NB727_728.out
                  have hnc49 := NB728_727.out
                  obtain ⟨hcz50_0, hcz50_1, hcz50_2, hcz50_3, hcz50_4, hcz50_5, hfz50_0, hfz50_1, hfz50_2, hfz50_3, hfz50_4, hfz50_5⟩ := b6_ BK727.out
                  go_wp2_with (first | ((with_reducible refine gate_callee (f := 67) rfl ?_); refine gL_ (some 62) Try.func67 #[.agg #[.slice A0_0 l0_0.length c0_0, .slice A0_1 l0_1.length c0_1, .int .u64 a0_2, .slice A0_3 l0_3.length c0_3, .int .u32 a0_4, .int .u32 a0_5], .int .u32 t729] ?_; (with_reducible refine (gmap_free.calls _ _ l0_0 _ _ l0_1 a0_2 _ _ l0_3 a0_4 a0_5 t729 t731 true _ ?side1 ?side2 ?side3 ?side4 ?side5 ?side6 A31.out).mono ?_); (case side1 => exact cT_ (Kd.V_reads' HO_728000.out).2.2); (case side2 => exact (Kd.V_reads' HO_728000.out).2.1); (case side3 => exact cT_ (Kd.V_reads' HO_728001.out).2.2); (case side4 => exact (Kd.V_reads' HO_728001.out).2.1); (case side5 => exact cT_ (Kd.V_reads' HO_728003.out).2.2); (case side6 => exact (Kd.V_reads' HO_728003.out).2.1); rintro e w51 ⟨rfl, hb⟩; refine ⟨_, rfl, ?_⟩; replace HO_728000 := vB_ HO_728000.out hb; replace HO_728001 := vB_ HO_728001.out hb; replace HO_728003 := vB_ HO_728003.out hb; replace BK727 := kB_ BK727 hb; replace BK728 := kB_ BK728 hb; replace HB := hB_ hb; (try clear hb); (try clear hb2); (try clear hk); (try clear hi); obtain ⟨hcz52_0, hcz52_1, hcz52_2, hcz52_3, hcz52_4, hcz52_5, hfz52_0, hfz52_1, hfz52_2, hfz52_3, hfz52_4, hfz52_5⟩ := b6_ BK727.out) | ((with_reducible refine gate_callee (f := 64) rfl ?_); refine gL_ (some 74) Try.func64 #[.agg #[.slice A0_0 l0_0.length c0_0, .slice A0_1 l0_1.length c0_1, .int .u64 a0_2, .slice A0_3 l0_3.length c0_3], .int .u32 t731, .int .u32 t729, .int .i64 a3] ?_; (with_reducible refine (guest_Map.calls (fun k_ => (((P0_0_ k_ ∨ P0_1_ k_ ∨ P0_3_ k_) ∨ w.heap.size ≤ k_) ∧ (k_ ≠ gb727 ∧ k_ ≠ gb728))) _ _ l0_0 (fun k_ => (((P0_0_ k_ ∨ P0_1_ k_ ∨ P0_3_ k_) ∨ w.heap.size ≤ k_) ∧ (k_ ≠ gb727 ∧ k_ ≠ gb728))) _ _ l0_1 a0_2 (fun k_ => (((P0_0_ k_ ∨ P0_1_ k_ ∨ P0_3_ k_) ∨ w.heap.size ≤ k_) ∧ (k_ ≠ gb727 ∧ k_ ≠ gb728))) _ _ l0_3 t731 t729 a3 t733 t736 t739 t740 t743 _ ?side1 ?side2 ?side3 A33.out).mono ?_); (case side1 => first | exact HO_728000.out | exact Kd.V_mono HO_728000.out (fun _ hk => by grind)); (case side2 => first | exact HO_728001.out | exact Kd.V_mono HO_728001.out (fun _ hk => by grind)); (case side3 => first | exact HO_728003.out | exact Kd.V_mono HO_728003.out (fun _ hk => by grind)); rintro e w53 ⟨v734, v737, v741, rfl, ho0, ho1, ho2, hb⟩; refine ⟨_, rfl, ?_⟩; have HO735 := Aside0.mk (Kd.V_lower (Kd.V_mono (ok' := fun k_ => ((P0_0_ k_ ∨ P0_1_ k_ ∨ P0_3_ k_) ∨ w.heap.size ≤ k_) ∧ k_ ≠ gb727 ∧ k_ ≠ gb728) ho0 (fun k_ hk_ => ⟨Or.elim hk_ (fun hs_ => Or.elim hs_ (fun hs_ => hs_.1) (fun hs_ => Or.elim hs_ (fun hs_ => hs_.1) (fun hs_ => hs_.1))) (fun hn_ => (.inr (Nat.le_trans (below_size beT_) hn_))), Or.elim hk_ (fun hs_ => Or.elim hs_ (fun hs_ => hs_.2.1) (fun hs_ => Or.elim hs_ (fun hs_ => hs_.2.1) (fun hs_ => hs_.2.1))) (fun hn_ => (Kd.freshB (g := gb727) (o := .cells #[.slice A0_0 l0_0.length c0_0, .slice A0_1 l0_1.length c0_1, .int .u64 a0_2, .slice A0_3 l0_3.length c0_3, .int .u32 a0_4, .int .u32 a0_5] 63 (0, 0)) (bT_ BK727.out) k_ hn_)), Or.elim hk_ (fun hs_ => Or.elim hs_ (fun hs_ => hs_.2.2) (fun hs_ => Or.elim hs_ (fun hs_ => hs_.2.2) (fun hs_ => hs_.2.2))) (fun hn_ => (Kd.freshB (g := gb728) (o := .cells #[.slice none 0 0, .slice none 0 0, .int .u64 0, .slice none 0 0, .int .u32 0, .int .u32 0] 63 (0, 0)) (bT_ BK728.out) k_ hn_))⟩)) (below_size beT_)); have HO738 := Aside0.mk (Kd.V_lower (Kd.V_mono (ok' := fun k_ => ((P0_0_ k_ ∨ P0_1_ k_ ∨ P0_3_ k_) ∨ w.heap.size ≤ k_) ∧ k_ ≠ gb727 ∧ k_ ≠ gb728) ho1 (fun k_ hk_ => ⟨Or.elim hk_ (fun hs_ => Or.elim hs_ (fun hs_ => hs_.1) (fun hs_ => Or.elim hs_ (fun hs_ => hs_.1) (fun hs_ => hs_.1))) (fun hn_ => (.inr (Nat.le_trans (below_size beT_) hn_))), Or.elim hk_ (fun hs_ => Or.elim hs_ (fun hs_ => hs_.2.1) (fun hs_ => Or.elim hs_ (fun hs_ => hs_.2.1) (fun hs_ => hs_.2.1))) (fun hn_ => (Kd.freshB (g := gb727) (o := .cells #[.slice A0_0 l0_0.length c0_0, .slice A0_1 l0_1.length c0_1, .int .u64 a0_2, .slice A0_3 l0_3.length c0_3, .int .u32 a0_4, .int .u32 a0_5] 63 (0, 0)) (bT_ BK727.out) k_ hn_)), Or.elim hk_ (fun hs_ => Or.elim hs_ (fun hs_ => hs_.2.2) (fun hs_ => Or.elim hs_ (fun hs_ => hs_.2.2) (fun hs_ => hs_.2.2))) (fun hn_ => (Kd.freshB (g := gb728) (o := .cells #[.slice none 0 0, .slice none 0 0, .int .u64 0, .slice none 0 0, .int .u32 0, .int .u32 0] 63 (0, 0)) (bT_ BK728.out) k_ hn_))⟩)) (below_size beT_)); have HO742 := Aside0.mk (Kd.V_lower (Kd.V_mono (ok' := fun k_ => ((P0_0_ k_ ∨ P0_1_ k_ ∨ P0_3_ k_) ∨ w.heap.size ≤ k_) ∧ k_ ≠ gb727 ∧ k_ ≠ gb728) ho2 (fun k_ hk_ => ⟨Or.elim hk_ (fun hs_ => Or.elim hs_ (fun hs_ => hs_.1) (fun hs_ => Or.elim hs_ (fun hs_ => hs_.1) (fun hs_ => hs_.1))) (fun hn_ => (.inr (Nat.le_trans (below_size beT_) hn_))), Or.elim hk_ (fun hs_ => Or.elim hs_ (fun hs_ => hs_.2.1) (fun hs_ => Or.elim hs_ (fun hs_ => hs_.2.1) (fun hs_ => hs_.2.1))) (fun hn_ => (Kd.freshB (g := gb727) (o := .cells #[.slice A0_0 l0_0.length c0_0, .slice A0_1 l0_1.length c0_1, .int .u64 a0_2, .slice A0_3 l0_3.length c0_3, .int .u32 a0_4, .int .u32 a0_5] 63 (0, 0)) (bT_ BK727.out) k_ hn_)), Or.elim hk_ (fun hs_ => Or.elim hs_ (fun hs_ => hs_.2.2) (fun hs_ => Or.elim hs_ (fun hs_ => hs_.2.2) (fun hs_ => hs_.2.2))) (fun hn_ => (Kd.freshB (g := gb728) (o := .cells #[.slice none 0 0, .slice none 0 0, .int .u64 0, .slice none 0 0, .int .u32 0, .int .u32 0] 63 (0, 0)) (bT_ BK728.out) k_ hn_))⟩)) (below_size beT_)); replace HO_728000 := vB_ HO_728000.out hb; replace HO_728001 := vB_ HO_728001.out hb; replace HO_728003 := vB_ HO_728003.out hb; replace BK727 := kB_ BK727 hb; replace BK728 := kB_ BK728 hb; replace HB := hB_ hb; (try clear hb); (try clear hb2); (try clear hk); (try clear hi); (try clear ho0); (try clear ho1); (try clear ho2)) | ((with_reducible refine gate_dst (N := 16) rfl ?_); refine bE_ 16 #[.slice none 0 0, .slice none 0 0, .int .u64 0, .slice none 0 0] 29 ?_; intro gb744 hg w54 hbox hb; have BK744 := Aside0.mk hbox; have GW744 := geT_ w.heap.size hg; have GE744 := geT_ w.heap.size hg; have NB727_744 := nlT_ BK727.out hg; have NB744_727 := ngT_ BK727.out hg; have NB728_744 := nlT_ BK728.out hg; have NB744_728 := ngT_ BK728.out hg; replace HO_728000 := vE_ HO_728000.out hg hb; replace HO_728001 := vE_ HO_728001.out hg hb; replace HO_728003 := vE_ HO_728003.out hg hb; replace HO735 := vE_ HO735.out hg hb; replace HO738 := vE_ HO738.out hg hb; replace HO742 := vE_ HO742.out hg hb; replace BK727 := kB_ BK727 hb; replace BK728 := kB_ BK728 hb; replace HB := hB_ hb; clear hb hbox hg; obtain ⟨Ao55, co55, eo55⟩ := Kd.V_slice HO735.out; subst eo55; have hnb56 := NB744_727.out; have hnc56 := NB727_744.out; have hnb57 := NB744_728.out; have hnc57 := NB728_744.out; obtain ⟨hcz58_0, hcz58_1, hcz58_2, hcz58_3, hfz58_0, hfz58_1, hfz58_2, hfz58_3⟩ := b4_ BK744.out; obtain ⟨Ao59, co59, eo59⟩ := Kd.V_slice HO738.out; subst eo59; obtain ⟨Ao60, co60, eo60⟩ := Kd.V_slice HO742.out; subst eo60; obtain ⟨hcz61_0, hcz61_1, hcz61_2, hcz61_3, hcz61_4, hcz61_5, hfz61_0, hfz61_1, hfz61_2, hfz61_3, hfz61_4, hfz61_5⟩ := b6_ BK727.out; obtain ⟨hcz62_0, hcz62_1, hcz62_2, hcz62_3, hcz62_4, hcz62_5, hfz62_0, hfz62_1, hfz62_2, hfz62_3, hfz62_4, hfz62_5⟩ := b6_ BK728.out))
                  refine bodyPost_ret (results_ctt rfl _ _ gb728 63 #[.slice A0_0 l0_0.length c0_0, .slice A0_1 l0_1.length c0_1, .int .u64 a0_2, .slice A0_3 l0_3.length c0_3, .int .u32 a0_4, .int .u32 a0_5] (0, 0) _ rfl (kP_ BK728.out) Try.underlying63 rfl (by kernel_rfl)) rfl ?_
                  exact ⟨_, _, _, r3_, (vF_ HO_728000.out), (vF_ HO_728001.out), (vF_ HO_728003.out), beT_⟩
                replace c32 := Bool.eq_false_iff.mpr c32
                subst c32
                replace H := hN_ H
                simp only [Option.some.injEq, Prod.mk.injEq] at H
                obtain ⟨rfl, rfl, rfl, rfl, rfl, rfl, rfl, rfl⟩ := H
                have hnb63 := NB727_728.out
                have hnc63 := NB728_727.out
                obtain ⟨hcz64_0, hcz64_1, hcz64_2, hcz64_3, hcz64_4, hcz64_5, hfz64_0, hfz64_1, hfz64_2, hfz64_3, hfz64_4, hfz64_5⟩ := b6_ BK727.out
                go_wp2_with (first | ((with_reducible refine gate_callee (f := 67) rfl ?_); refine gL_ (some 62) Try.func67 #[.agg #[.slice A0_0 l0_0.length c0_0, .slice A0_1 l0_1.length c0_1, .int .u64 a0_2, .slice A0_3 l0_3.length c0_3, .int .u32 a0_4, .int .u32 a0_5], .int .u32 t729] ?_; (with_reducible refine (gmap_free.calls _ _ l0_0 _ _ l0_1 a0_2 _ _ l0_3 a0_4 a0_5 t729 t731 false _ ?side1 ?side2 ?side3 ?side4 ?side5 ?side6 A31.out).mono ?_); (case side1 => exact cT_ (Kd.V_reads' HO_728000.out).2.2); (case side2 => exact (Kd.V_reads' HO_728000.out).2.1); (case side3 => exact cT_ (Kd.V_reads' HO_728001.out).2.2); (case side4 => exact (Kd.V_reads' HO_728001.out).2.1); (case side5 => exact cT_ (Kd.V_reads' HO_728003.out).2.2); (case side6 => exact (Kd.V_reads' HO_728003.out).2.1); rintro e w65 ⟨rfl, hb⟩; refine ⟨_, rfl, ?_⟩; replace HO_728000 := vB_ HO_728000.out hb; replace HO_728001 := vB_ HO_728001.out hb; replace HO_728003 := vB_ HO_728003.out hb; replace BK727 := kB_ BK727 hb; replace BK728 := kB_ BK728 hb; replace HB := hB_ hb; (try clear hb); (try clear hb2); (try clear hk); (try clear hi); obtain ⟨hcz66_0, hcz66_1, hcz66_2, hcz66_3, hcz66_4, hcz66_5, hfz66_0, hfz66_1, hfz66_2, hfz66_3, hfz66_4, hfz66_5⟩ := b6_ BK727.out; obtain ⟨hcz67_0, hcz67_1, hcz67_2, hcz67_3, hcz67_4, hcz67_5, hfz67_0, hfz67_1, hfz67_2, hfz67_3, hfz67_4, hfz67_5⟩ := b6_ BK728.out))
                refine bodyPost_ret (results_ctt rfl _ _ gb728 63 #[.slice A0_0 l0_0.length c0_0, .slice A0_1 l0_1.length c0_1, .int .u64 a0_2, .slice A0_3 l0_3.length c0_3, .int .u32 a0_4, .int .u32 a0_5] (0, 0) _ rfl (kP_ BK728.out) Try.underlying63 rfl (by kernel_rfl)) rfl ?_
                exact ⟨_, _, _, r3_, (vF_ HO_728000.out), (vF_ HO_728001.out), (vF_ HO_728003.out), beT_⟩
              replace c30 := Bool.eq_false_iff.mpr c30
              subst c30
              replace H := hN_ H
              replace H := Option.bind_eq_some_iff.mp H
              obtain ⟨⟨t745, t748, t751, t752, t755⟩, A680, H⟩ := H
              have A68 := Aside0.mk A680
              clear A680
              by_cases c69 : t755 = 0
              · rw [if_pos c69] at H
                have c69b0 : (t755 == 0) = true := beq_iff_eq.mpr c69
                have c69b1 : (t755 != 0) = false := bne_eq_false_iff_eq.mpr c69
                clear c69
                simp only [Option.some.injEq, Prod.mk.injEq] at H
                obtain ⟨rfl, rfl, rfl, rfl, rfl, rfl, rfl, rfl⟩ := H
                have hnb70 := NB727_728.out
                have hnc70 := NB728_727.out
                obtain ⟨hcz71_0, hcz71_1, hcz71_2, hcz71_3, hcz71_4, hcz71_5, hfz71_0, hfz71_1, hfz71_2, hfz71_3, hfz71_4, hfz71_5⟩ := b6_ BK727.out
                go_wp2_with (first | ((with_reducible refine gate_callee (f := 64) rfl ?_); refine gL_ (some 74) Try.func64 #[.agg #[.slice A0_0 l0_0.length c0_0, .slice A0_1 l0_1.length c0_1, .int .u64 a0_2, .slice A0_3 l0_3.length c0_3], .int .u32 ((Int.tdiv a1 4096) % 4294967296), .int .u32 t729, .int .i64 a3] ?_; (with_reducible refine (guest_Map.calls (fun k_ => (((P0_0_ k_ ∨ P0_1_ k_ ∨ P0_3_ k_) ∨ w.heap.size ≤ k_) ∧ (k_ ≠ gb727 ∧ k_ ≠ gb728))) _ _ l0_0 (fun k_ => (((P0_0_ k_ ∨ P0_1_ k_ ∨ P0_3_ k_) ∨ w.heap.size ≤ k_) ∧ (k_ ≠ gb727 ∧ k_ ≠ gb728))) _ _ l0_1 a0_2 (fun k_ => (((P0_0_ k_ ∨ P0_1_ k_ ∨ P0_3_ k_) ∨ w.heap.size ≤ k_) ∧ (k_ ≠ gb727 ∧ k_ ≠ gb728))) _ _ l0_3 ((Int.tdiv a1 4096) % 4294967296) t729 a3 t745 t748 t751 t752 t755 _ ?side1 ?side2 ?side3 A68.out).mono ?_); (case side1 => first | exact HO_728000.out | exact Kd.V_mono HO_728000.out (fun _ hk => by grind)); (case side2 => first | exact HO_728001.out | exact Kd.V_mono HO_728001.out (fun _ hk => by grind)); (case side3 => first | exact HO_728003.out | exact Kd.V_mono HO_728003.out (fun _ hk => by grind)); rintro e w72 ⟨v746, v749, v753, rfl, ho0, ho1, ho2, hb⟩; refine ⟨_, rfl, ?_⟩; have HO747 := Aside0.mk (Kd.V_lower (Kd.V_mono (ok' := fun k_ => ((P0_0_ k_ ∨ P0_1_ k_ ∨ P0_3_ k_) ∨ w.heap.size ≤ k_) ∧ k_ ≠ gb727 ∧ k_ ≠ gb728) ho0 (fun k_ hk_ => ⟨Or.elim hk_ (fun hs_ => Or.elim hs_ (fun hs_ => hs_.1) (fun hs_ => Or.elim hs_ (fun hs_ => hs_.1) (fun hs_ => hs_.1))) (fun hn_ => (.inr (Nat.le_trans (below_size beT_) hn_))), Or.elim hk_ (fun hs_ => Or.elim hs_ (fun hs_ => hs_.2.1) (fun hs_ => Or.elim hs_ (fun hs_ => hs_.2.1) (fun hs_ => hs_.2.1))) (fun hn_ => (Kd.freshB (g := gb727) (o := .cells #[.slice A0_0 l0_0.length c0_0, .slice A0_1 l0_1.length c0_1, .int .u64 a0_2, .slice A0_3 l0_3.length c0_3, .int .u32 a0_4, .int .u32 a0_5] 63 (0, 0)) (bT_ BK727.out) k_ hn_)), Or.elim hk_ (fun hs_ => Or.elim hs_ (fun hs_ => hs_.2.2) (fun hs_ => Or.elim hs_ (fun hs_ => hs_.2.2) (fun hs_ => hs_.2.2))) (fun hn_ => (Kd.freshB (g := gb728) (o := .cells #[.slice none 0 0, .slice none 0 0, .int .u64 0, .slice none 0 0, .int .u32 0, .int .u32 0] 63 (0, 0)) (bT_ BK728.out) k_ hn_))⟩)) (below_size beT_)); have HO750 := Aside0.mk (Kd.V_lower (Kd.V_mono (ok' := fun k_ => ((P0_0_ k_ ∨ P0_1_ k_ ∨ P0_3_ k_) ∨ w.heap.size ≤ k_) ∧ k_ ≠ gb727 ∧ k_ ≠ gb728) ho1 (fun k_ hk_ => ⟨Or.elim hk_ (fun hs_ => Or.elim hs_ (fun hs_ => hs_.1) (fun hs_ => Or.elim hs_ (fun hs_ => hs_.1) (fun hs_ => hs_.1))) (fun hn_ => (.inr (Nat.le_trans (below_size beT_) hn_))), Or.elim hk_ (fun hs_ => Or.elim hs_ (fun hs_ => hs_.2.1) (fun hs_ => Or.elim hs_ (fun hs_ => hs_.2.1) (fun hs_ => hs_.2.1))) (fun hn_ => (Kd.freshB (g := gb727) (o := .cells #[.slice A0_0 l0_0.length c0_0, .slice A0_1 l0_1.length c0_1, .int .u64 a0_2, .slice A0_3 l0_3.length c0_3, .int .u32 a0_4, .int .u32 a0_5] 63 (0, 0)) (bT_ BK727.out) k_ hn_)), Or.elim hk_ (fun hs_ => Or.elim hs_ (fun hs_ => hs_.2.2) (fun hs_ => Or.elim hs_ (fun hs_ => hs_.2.2) (fun hs_ => hs_.2.2))) (fun hn_ => (Kd.freshB (g := gb728) (o := .cells #[.slice none 0 0, .slice none 0 0, .int .u64 0, .slice none 0 0, .int .u32 0, .int .u32 0] 63 (0, 0)) (bT_ BK728.out) k_ hn_))⟩)) (below_size beT_)); have HO754 := Aside0.mk (Kd.V_lower (Kd.V_mono (ok' := fun k_ => ((P0_0_ k_ ∨ P0_1_ k_ ∨ P0_3_ k_) ∨ w.heap.size ≤ k_) ∧ k_ ≠ gb727 ∧ k_ ≠ gb728) ho2 (fun k_ hk_ => ⟨Or.elim hk_ (fun hs_ => Or.elim hs_ (fun hs_ => hs_.1) (fun hs_ => Or.elim hs_ (fun hs_ => hs_.1) (fun hs_ => hs_.1))) (fun hn_ => (.inr (Nat.le_trans (below_size beT_) hn_))), Or.elim hk_ (fun hs_ => Or.elim hs_ (fun hs_ => hs_.2.1) (fun hs_ => Or.elim hs_ (fun hs_ => hs_.2.1) (fun hs_ => hs_.2.1))) (fun hn_ => (Kd.freshB (g := gb727) (o := .cells #[.slice A0_0 l0_0.length c0_0, .slice A0_1 l0_1.length c0_1, .int .u64 a0_2, .slice A0_3 l0_3.length c0_3, .int .u32 a0_4, .int .u32 a0_5] 63 (0, 0)) (bT_ BK727.out) k_ hn_)), Or.elim hk_ (fun hs_ => Or.elim hs_ (fun hs_ => hs_.2.2) (fun hs_ => Or.elim hs_ (fun hs_ => hs_.2.2) (fun hs_ => hs_.2.2))) (fun hn_ => (Kd.freshB (g := gb728) (o := .cells #[.slice none 0 0, .slice none 0 0, .int .u64 0, .slice none 0 0, .int .u32 0, .int .u32 0] 63 (0, 0)) (bT_ BK728.out) k_ hn_))⟩)) (below_size beT_)); replace HO_728000 := vB_ HO_728000.out hb; replace HO_728001 := vB_ HO_728001.out hb; replace HO_728003 := vB_ HO_728003.out hb; replace BK727 := kB_ BK727 hb; replace BK728 := kB_ BK728 hb; replace HB := hB_ hb; (try clear hb); (try clear hb2); (try clear hk); (try clear hi); (try clear ho0); (try clear ho1); (try clear ho2)) | ((with_reducible refine gate_dst (N := 16) rfl ?_); refine bE_ 16 #[.slice none 0 0, .slice none 0 0, .int .u64 0, .slice none 0 0] 29 ?_; intro gb756 hg w73 hbox hb; have BK756 := Aside0.mk hbox; have GW756 := geT_ w.heap.size hg; have GE756 := geT_ w.heap.size hg; have NB727_756 := nlT_ BK727.out hg; have NB756_727 := ngT_ BK727.out hg; have NB728_756 := nlT_ BK728.out hg; have NB756_728 := ngT_ BK728.out hg; replace HO_728000 := vE_ HO_728000.out hg hb; replace HO_728001 := vE_ HO_728001.out hg hb; replace HO_728003 := vE_ HO_728003.out hg hb; replace HO747 := vE_ HO747.out hg hb; replace HO750 := vE_ HO750.out hg hb; replace HO754 := vE_ HO754.out hg hb; replace BK727 := kB_ BK727 hb; replace BK728 := kB_ BK728 hb; replace HB := hB_ hb; clear hb hbox hg; obtain ⟨Ao74, co74, eo74⟩ := Kd.V_slice HO747.out; subst eo74; have hnb75 := NB756_727.out; have hnc75 := NB727_756.out; have hnb76 := NB756_728.out; have hnc76 := NB728_756.out; obtain ⟨hcz77_0, hcz77_1, hcz77_2, hcz77_3, hfz77_0, hfz77_1, hfz77_2, hfz77_3⟩ := b4_ BK756.out; obtain ⟨Ao78, co78, eo78⟩ := Kd.V_slice HO750.out; subst eo78; obtain ⟨Ao79, co79, eo79⟩ := Kd.V_slice HO754.out; subst eo79; obtain ⟨hcz80_0, hcz80_1, hcz80_2, hcz80_3, hcz80_4, hcz80_5, hfz80_0, hfz80_1, hfz80_2, hfz80_3, hfz80_4, hfz80_5⟩ := b6_ BK727.out; obtain ⟨hcz81_0, hcz81_1, hcz81_2, hcz81_3, hcz81_4, hcz81_5, hfz81_0, hfz81_1, hfz81_2, hfz81_3, hfz81_4, hfz81_5⟩ := b6_ BK728.out))
                refine bodyPost_ret (results_ctt rfl _ _ gb728 63 #[.slice Ao74 t745.length co74, .slice Ao78 t748.length co78, .int .u64 t751, .slice Ao79 t752.length co79, .int .u32 a0_4, .int .u32 a0_5] (0, 0) _ rfl (kP_ BK728.out) Try.underlying63 rfl (by kernel_rfl)) rfl ?_
                exact ⟨_, _, _, r3_, (vF_ HO747.out), (vF_ HO750.out), (vF_ HO754.out), beT_⟩
              rw [if_neg c69] at H
              have c69b0 : (t755 == 0) = false := beq_eq_false_iff_ne.mpr c69
              have c69b1 : (t755 != 0) = true := bne_iff_ne.mpr c69
              simp only [Option.some.injEq, Prod.mk.injEq] at H
              obtain ⟨rfl, rfl, rfl, rfl, rfl, rfl, rfl, rfl⟩ := H
              have hnb82 := NB727_728.out
              have hnc82 := NB728_727.out
              obtain ⟨hcz83_0, hcz83_1, hcz83_2, hcz83_3, hcz83_4, hcz83_5, hfz83_0, hfz83_1, hfz83_2, hfz83_3, hfz83_4, hfz83_5⟩ := b6_ BK727.out
              go_wp2_with (first | ((with_reducible refine gate_callee (f := 64) rfl ?_); refine gL_ (some 74) Try.func64 #[.agg #[.slice A0_0 l0_0.length c0_0, .slice A0_1 l0_1.length c0_1, .int .u64 a0_2, .slice A0_3 l0_3.length c0_3], .int .u32 ((Int.tdiv a1 4096) % 4294967296), .int .u32 t729, .int .i64 a3] ?_; (with_reducible refine (guest_Map.calls (fun k_ => (((P0_0_ k_ ∨ P0_1_ k_ ∨ P0_3_ k_) ∨ w.heap.size ≤ k_) ∧ (k_ ≠ gb727 ∧ k_ ≠ gb728))) _ _ l0_0 (fun k_ => (((P0_0_ k_ ∨ P0_1_ k_ ∨ P0_3_ k_) ∨ w.heap.size ≤ k_) ∧ (k_ ≠ gb727 ∧ k_ ≠ gb728))) _ _ l0_1 a0_2 (fun k_ => (((P0_0_ k_ ∨ P0_1_ k_ ∨ P0_3_ k_) ∨ w.heap.size ≤ k_) ∧ (k_ ≠ gb727 ∧ k_ ≠ gb728))) _ _ l0_3 ((Int.tdiv a1 4096) % 4294967296) t729 a3 t745 t748 t751 t752 t755 _ ?side1 ?side2 ?side3 A68.out).mono ?_); (case side1 => first | exact HO_728000.out | exact Kd.V_mono HO_728000.out (fun _ hk => by grind)); (case side2 => first | exact HO_728001.out | exact Kd.V_mono HO_728001.out (fun _ hk => by grind)); (case side3 => first | exact HO_728003.out | exact Kd.V_mono HO_728003.out (fun _ hk => by grind)); rintro e w84 ⟨v746, v749, v753, rfl, ho0, ho1, ho2, hb⟩; refine ⟨_, rfl, ?_⟩; have HO747 := Aside0.mk (Kd.V_lower (Kd.V_mono (ok' := fun k_ => ((P0_0_ k_ ∨ P0_1_ k_ ∨ P0_3_ k_) ∨ w.heap.size ≤ k_) ∧ k_ ≠ gb727 ∧ k_ ≠ gb728) ho0 (fun k_ hk_ => ⟨Or.elim hk_ (fun hs_ => Or.elim hs_ (fun hs_ => hs_.1) (fun hs_ => Or.elim hs_ (fun hs_ => hs_.1) (fun hs_ => hs_.1))) (fun hn_ => (.inr (Nat.le_trans (below_size beT_) hn_))), Or.elim hk_ (fun hs_ => Or.elim hs_ (fun hs_ => hs_.2.1) (fun hs_ => Or.elim hs_ (fun hs_ => hs_.2.1) (fun hs_ => hs_.2.1))) (fun hn_ => (Kd.freshB (g := gb727) (o := .cells #[.slice A0_0 l0_0.length c0_0, .slice A0_1 l0_1.length c0_1, .int .u64 a0_2, .slice A0_3 l0_3.length c0_3, .int .u32 a0_4, .int .u32 a0_5] 63 (0, 0)) (bT_ BK727.out) k_ hn_)), Or.elim hk_ (fun hs_ => Or.elim hs_ (fun hs_ => hs_.2.2) (fun hs_ => Or.elim hs_ (fun hs_ => hs_.2.2) (fun hs_ => hs_.2.2))) (fun hn_ => (Kd.freshB (g := gb728) (o := .cells #[.slice none 0 0, .slice none 0 0, .int .u64 0, .slice none 0 0, .int .u32 0, .int .u32 0] 63 (0, 0)) (bT_ BK728.out) k_ hn_))⟩)) (below_size beT_)); have HO750 := Aside0.mk (Kd.V_lower (Kd.V_mono (ok' := fun k_ => ((P0_0_ k_ ∨ P0_1_ k_ ∨ P0_3_ k_) ∨ w.heap.size ≤ k_) ∧ k_ ≠ gb727 ∧ k_ ≠ gb728) ho1 (fun k_ hk_ => ⟨Or.elim hk_ (fun hs_ => Or.elim hs_ (fun hs_ => hs_.1) (fun hs_ => Or.elim hs_ (fun hs_ => hs_.1) (fun hs_ => hs_.1))) (fun hn_ => (.inr (Nat.le_trans (below_size beT_) hn_))), Or.elim hk_ (fun hs_ => Or.elim hs_ (fun hs_ => hs_.2.1) (fun hs_ => Or.elim hs_ (fun hs_ => hs_.2.1) (fun hs_ => hs_.2.1))) (fun hn_ => (Kd.freshB (g := gb727) (o := .cells #[.slice A0_0 l0_0.length c0_0, .slice A0_1 l0_1.length c0_1, .int .u64 a0_2, .slice A0_3 l0_3.length c0_3, .int .u32 a0_4, .int .u32 a0_5] 63 (0, 0)) (bT_ BK727.out) k_ hn_)), Or.elim hk_ (fun hs_ => Or.elim hs_ (fun hs_ => hs_.2.2) (fun hs_ => Or.elim hs_ (fun hs_ => hs_.2.2) (fun hs_ => hs_.2.2))) (fun hn_ => (Kd.freshB (g := gb728) (o := .cells #[.slice none 0 0, .slice none 0 0, .int .u64 0, .slice none 0 0, .int .u32 0, .int .u32 0] 63 (0, 0)) (bT_ BK728.out) k_ hn_))⟩)) (below_size beT_)); have HO754 := Aside0.mk (Kd.V_lower (Kd.V_mono (ok' := fun k_ => ((P0_0_ k_ ∨ P0_1_ k_ ∨ P0_3_ k_) ∨ w.heap.size ≤ k_) ∧ k_ ≠ gb727 ∧ k_ ≠ gb728) ho2 (fun k_ hk_ => ⟨Or.elim hk_ (fun hs_ => Or.elim hs_ (fun hs_ => hs_.1) (fun hs_ => Or.elim hs_ (fun hs_ => hs_.1) (fun hs_ => hs_.1))) (fun hn_ => (.inr (Nat.le_trans (below_size beT_) hn_))), Or.elim hk_ (fun hs_ => Or.elim hs_ (fun hs_ => hs_.2.1) (fun hs_ => Or.elim hs_ (fun hs_ => hs_.2.1) (fun hs_ => hs_.2.1))) (fun hn_ => (Kd.freshB (g := gb727) (o := .cells #[.slice A0_0 l0_0.length c0_0, .slice A0_1 l0_1.length c0_1, .int .u64 a0_2, .slice A0_3 l0_3.length c0_3, .int .u32 a0_4, .int .u32 a0_5] 63 (0, 0)) (bT_ BK727.out) k_ hn_)), Or.elim hk_ (fun hs_ => Or.elim hs_ (fun hs_ => hs_.2.2) (fun hs_ => Or.elim hs_ (fun hs_ => hs_.2.2) (fun hs_ => hs_.2.2))) (fun hn_ => (Kd.freshB (g := gb728) (o := .cells #[.slice none 0 0, .slice none 0 0, .int .u64 0, .slice none 0 0, .int .u32 0, .int .u32 0] 63 (0, 0)) (bT_ BK728.out) k_ hn_))⟩)) (below_size beT_)); replace HO_728000 := vB_ HO_728000.out hb; replace HO_728001 := vB_ HO_728001.out hb; replace HO_728003 := vB_ HO_728003.out hb; replace BK727 := kB_ BK727 hb; replace BK728 := kB_ BK728 hb; replace HB := hB_ hb; (try clear hb); (try clear hb2); (try clear hk); (try clear hi); (try clear ho0); (try clear ho1); (try clear ho2)) | ((with_reducible refine gate_dst (N := 16) rfl ?_); refine bE_ 16 #[.slice none 0 0, .slice none 0 0, .int .u64 0, .slice none 0 0] 29 ?_; intro gb756 hg w85 hbox hb; have BK756 := Aside0.mk hbox; have GW756 := geT_ w.heap.size hg; have GE756 := geT_ w.heap.size hg; have NB727_756 := nlT_ BK727.out hg; have NB756_727 := ngT_ BK727.out hg; have NB728_756 := nlT_ BK728.out hg; have NB756_728 := ngT_ BK728.out hg; replace HO_728000 := vE_ HO_728000.out hg hb; replace HO_728001 := vE_ HO_728001.out hg hb; replace HO_728003 := vE_ HO_728003.out hg hb; replace HO747 := vE_ HO747.out hg hb; replace HO750 := vE_ HO750.out hg hb; replace HO754 := vE_ HO754.out hg hb; replace BK727 := kB_ BK727 hb; replace BK728 := kB_ BK728 hb; replace HB := hB_ hb; clear hb hbox hg; obtain ⟨Ao86, co86, eo86⟩ := Kd.V_slice HO747.out; subst eo86; have hnb87 := NB756_727.out; have hnc87 := NB727_756.out; have hnb88 := NB756_728.out; have hnc88 := NB728_756.out; obtain ⟨hcz89_0, hcz89_1, hcz89_2, hcz89_3, hfz89_0, hfz89_1, hfz89_2, hfz89_3⟩ := b4_ BK756.out; obtain ⟨Ao90, co90, eo90⟩ := Kd.V_slice HO750.out; subst eo90; obtain ⟨Ao91, co91, eo91⟩ := Kd.V_slice HO754.out; subst eo91; obtain ⟨hcz92_0, hcz92_1, hcz92_2, hcz92_3, hcz92_4, hcz92_5, hfz92_0, hfz92_1, hfz92_2, hfz92_3, hfz92_4, hfz92_5⟩ := b6_ BK727.out; obtain ⟨hcz93_0, hcz93_1, hcz93_2, hcz93_3, hcz93_4, hcz93_5, hfz93_0, hfz93_1, hfz93_2, hfz93_3, hfz93_4, hfz93_5⟩ := b6_ BK728.out))
              refine bodyPost_ret (results_ctt rfl _ _ gb728 63 #[.slice A0_0 l0_0.length c0_0, .slice A0_1 l0_1.length c0_1, .int .u64 a0_2, .slice A0_3 l0_3.length c0_3, .int .u32 a0_4, .int .u32 a0_5] (0, 0) _ rfl (kP_ BK728.out) Try.underlying63 rfl (by kernel_rfl)) rfl ?_
              exact ⟨_, _, _, r3_, (vF_ HO_728000.out), (vF_ HO_728001.out), (vF_ HO_728003.out), beT_⟩

end Go.Proofs.Ytgkjdpdmmlalcaa.F
end
