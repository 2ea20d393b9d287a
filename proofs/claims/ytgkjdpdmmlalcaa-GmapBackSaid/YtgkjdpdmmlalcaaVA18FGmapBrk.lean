import Derived.Test.YtgkjdpdmmlalcaaVZF0
import Derived.Test.YtgkjdpdmmlalcaaVA0
import Derived.Test.YtgkjdpdmmlalcaaVA4HHost3
import Derived.Test.YtgkjdpdmmlalcaaVA7
import Derived.Test.YtgkjdpdmmlalcaaVA9
import Derived.Test.YtgkjdpdmmlalcaaVA11
import Derived.Test.YtgkjdpdmmlalcaaVA13
import Derived.Test.YtgkjdpdmmlalcaaVA14HGuest4
import Derived.Test.YtgkjdpdmmlalcaaVA16HGuest7
import Derived.Test.YtgkjdpdmmlalcaaVA17
section
namespace Go.Proofs.Ytgkjdpdmmlalcaa.F
open Go.RowKit Go.Proofs.YtgkjdpdmmlalcaaW.PrintWords Go.Proofs.YtgkjdpdmmlalcaaW.PrintLast Go.Proofs.YtgkjdpdmmlalcaaW.PrintMore
attribute [local go_sem] max2_int min2_int max_two min_two max_three min_three max_four min_four
attribute [local go_sem] u32w
attribute [local go_sem] cell_twice
set_option linter.unusedVariables false
set_option linter.unusedSimpArgs false

def gmap_Brk.j0 : Nat → Int → Int → Int → Bool → List (S83) → List (S88) → Int → List (S41) → Int → Int → List (S83) → List (S88) → Int → List (S41) → Option ((List (S83)) × (List (S88)) × Int × (List (S41)) × Int × Int × Int)
  | 0, _, _, _, _, _, _, _, _, _, _, _, _, _, _ => none
  | k + 1, x1, x6, x7, x37, x698000, x698001, x698002, x698003, x698004, x698005, x702000, x702001, x702002, x702003 => if x37 = true then (some (x698000, x698001, x698002, x698003, x698004, x698005, x698005)) else ((guest_Map.f x702000 x702001 x702002 x702003 x6 ((x7 - x6) % 4294967296) 3).bind fun bt703 => (if bt703.2.2.2.2 = 0 then (some (bt703.1, bt703.2.1, bt703.2.2.1, bt703.2.2.2.1, x698004, x1, x1)) else (some (x698000, x698001, x698002, x698003, x698004, x698005, x698005))))
def gmap_Brk.f (k : Nat) (l0_0 : List (S83)) (l0_1 : List (S88)) (a0_2 : Int) (l0_3 : List (S41)) (a0_4 : Int) (a0_5 : Int) (a1 : Int) : Option ((List (S83)) × (List (S88)) × Int × (List (S41)) × Int × Int × Int) := (gmap_count.f a0_5).bind fun t699 => ((gmap_count.f a1).bind fun t700 => (if a1 < a0_4 then (some (l0_0, l0_1, a0_2, l0_3, a0_4, a0_5, a0_5)) else (if t700 > t699 then (if t700 > 458752 then (gmap_Brk.j0 k a1 t699 t700 true l0_0 l0_1 a0_2 l0_3 a0_4 a0_5 l0_0 l0_1 a0_2 l0_3) else ((gmap_some.f l0_0 l0_1 a0_2 l0_3 t699 ((t700 - t699) % 4294967296)).bind fun t702 => (gmap_Brk.j0 k a1 t699 t700 t702 l0_0 l0_1 a0_2 l0_3 a0_4 a0_5 l0_0 l0_1 a0_2 l0_3))) else (if t700 < t699 then ((guest_Unmap.f l0_0 l0_1 a0_2 l0_3 t700 ((t699 - t700) % 4294967296)).bind fun bt714 => (if bt714.2.2.2.2 = 0 then (some (bt714.1, bt714.2.1, bt714.2.2.1, bt714.2.2.2.1, a0_4, a1, a1)) else (some (l0_0, l0_1, a0_2, l0_3, a0_4, a0_5, a0_5)))) else (if 0 = 0 then (some (l0_0, l0_1, a0_2, l0_3, a0_4, a1, a1)) else (some (l0_0, l0_1, a0_2, l0_3, a0_4, a0_5, a0_5)))))))
theorem gmap_Brk.mono_l : ∀ k, (∀ y0 y1 y2 y3 y4 y5 y6 y7 y8 y9 y10 y11 y12 y13, LeO (gmap_Brk.j0 k y0 y1 y2 y3 y4 y5 y6 y7 y8 y9 y10 y11 y12 y13) (gmap_Brk.j0 (k + 1) y0 y1 y2 y3 y4 y5 y6 y7 y8 y9 y10 y11 y12 y13))
  | 0 => fun _ _ _ _ _ _ _ _ _ _ _ _ _ _ r h => by simp [gmap_Brk.j0] at h
  | k + 1 => by
    have ih0 := gmap_Brk.mono_l k
    · intro y0 y1 y2 y3 y4 y5 y6 y7 y8 y9 y10 y11 y12 y13
      unfold gmap_Brk.j0
      exact moT_
theorem gmap_Brk.mono : ∀ a0 a1 a2 a3 a4 a5 a6 k, LeO (gmap_Brk.f k a0 a1 a2 a3 a4 a5 a6) (gmap_Brk.f (k + 1) a0 a1 a2 a3 a4 a5 a6) := by
  intro a0 a1 a2 a3 a4 a5 a6 k
  have ih0 := gmap_Brk.mono_l k
  unfold gmap_Brk.f
  exact moT_
set_option maxHeartbeats 8000000 in
set_option maxRecDepth 100000 in
theorem gmap_Brk.calls (k : Nat) (P0_0_ : Nat → Prop) (A0_0 : Option Addr) (c0_0 : Nat) (l0_0 : List (S83)) (P0_1_ : Nat → Prop) (A0_1 : Option Addr) (c0_1 : Nat) (l0_1 : List (S88)) (a0_2 : Int) (P0_3_ : Nat → Prop) (A0_3 : Option Addr) (c0_3 : Nat) (l0_3 : List (S41)) (a0_4 : Int) (a0_5 : Int) (a1 : Int) (r1 : List (S83)) (r2 : List (S88)) (r3 : Int) (r4 : List (S41)) (r5 : Int) (r6 : Int) (r7 : Int) (w : World) (hs0_0 : Kd.V k83 83 w w.heap.size (fun k_ => P0_0_ k_) (.slice A0_0 l0_0.length c0_0) l0_0) (hs0_1 : Kd.V k88 88 w w.heap.size (fun k_ => P0_1_ k_) (.slice A0_1 l0_1.length c0_1) l0_1) (hs0_3 : Kd.V k41 41 w w.heap.size (fun k_ => P0_3_ k_) (.slice A0_3 l0_3.length c0_3) l0_3) (h : gmap_Brk.f k l0_0 l0_1 a0_2 l0_3 a0_4 a0_5 a1 = some (r1, r2, r3, r4, r5, r6, r7)) :
    Calls Try.prog 34 #[.agg #[.slice A0_0 l0_0.length c0_0, .slice A0_1 l0_1.length c0_1, .int .u64 a0_2, .slice A0_3 l0_3.length c0_3, .int .u32 a0_4, .int .u32 a0_5], .int .u32 a1] w fun e w' => ∃ v0_ v1_ v3_ : Value, e = .returned (.tuple #[.agg #[v0_, v1_, .int .u64 r3, v3_, .int .u32 r5, .int .u32 r6], .int .u32 r7]) ∧ Kd.V k83 83 w' w.heap.size (fun k_ => ((P0_0_ k_ ∨ P0_1_ k_ ∨ P0_3_ k_) ∨ w.heap.size ≤ k_)) v0_ r1 ∧ Kd.V k88 88 w' w.heap.size (fun k_ => ((P0_0_ k_ ∨ P0_1_ k_ ∨ P0_3_ k_) ∨ w.heap.size ≤ k_)) v1_ r2 ∧ Kd.V k41 41 w' w.heap.size (fun k_ => ((P0_0_ k_ ∨ P0_1_ k_ ∨ P0_3_ k_) ∨ w.heap.size ≤ k_)) v3_ r4 ∧ Below w.heap.size w w' := by
  have hu63 := Try.underlying63
  have hu29 := Try.underlying29
  have HO0_0 := Aside0.mk (show Kd.V k83 83 w w.heap.size (fun k_ => ((P0_0_ k_ ∨ P0_1_ k_ ∨ P0_3_ k_) ∨ w.heap.size ≤ k_)) (.slice A0_0 l0_0.length c0_0) l0_0 from Kd.V_mono hs0_0 (fun k_ hk => .inl (.inl hk)))
  have HO0_1 := Aside0.mk (show Kd.V k88 88 w w.heap.size (fun k_ => ((P0_0_ k_ ∨ P0_1_ k_ ∨ P0_3_ k_) ∨ w.heap.size ≤ k_)) (.slice A0_1 l0_1.length c0_1) l0_1 from Kd.V_mono hs0_1 (fun k_ hk => .inl (.inr (.inl hk))))
  have HO0_3 := Aside0.mk (show Kd.V k41 41 w w.heap.size (fun k_ => ((P0_0_ k_ ∨ P0_1_ k_ ∨ P0_3_ k_) ∨ w.heap.size ≤ k_)) (.slice A0_3 l0_3.length c0_3) l0_3 from Kd.V_mono hs0_3 (fun k_ hk => .inl (.inr (.inr hk))))
  have HB := Aside0.mk (Below.refl w.heap.size w)
  have H : ((gmap_count.f a0_5).bind fun t699 => ((gmap_count.f a1).bind fun t700 => (if a1 < a0_4 then (some (l0_0, l0_1, a0_2, l0_3, a0_4, a0_5, a0_5)) else (if t700 > t699 then (if t700 > 458752 then (gmap_Brk.j0 k a1 t699 t700 true l0_0 l0_1 a0_2 l0_3 a0_4 a0_5 l0_0 l0_1 a0_2 l0_3) else ((gmap_some.f l0_0 l0_1 a0_2 l0_3 t699 ((t700 - t699) % 4294967296)).bind fun t702 => (gmap_Brk.j0 k a1 t699 t700 t702 l0_0 l0_1 a0_2 l0_3 a0_4 a0_5 l0_0 l0_1 a0_2 l0_3))) else (if t700 < t699 then ((guest_Unmap.f l0_0 l0_1 a0_2 l0_3 t700 ((t699 - t700) % 4294967296)).bind fun bt714 => (if bt714.2.2.2.2 = 0 then (some (bt714.1, bt714.2.1, bt714.2.2.1, bt714.2.2.2.1, a0_4, a1, a1)) else (some (l0_0, l0_1, a0_2, l0_3, a0_4, a0_5, a0_5)))) else (if 0 = 0 then (some (l0_0, l0_1, a0_2, l0_3, a0_4, a1, a1)) else (some (l0_0, l0_1, a0_2, l0_3, a0_4, a0_5, a0_5)))))))) = some (r1, r2, r3, r4, r5, r6, r7) := h
  clear h
  replace H := Option.bind_eq_some_iff.mp H
  obtain ⟨t699, A30, H⟩ := H
  have A3 := Aside0.mk A30
  clear A30
  replace H := Option.bind_eq_some_iff.mp H
  obtain ⟨t700, A40, H⟩ := H
  have A4 := Aside0.mk A40
  clear A40
  by_cases c5 : a1 < a0_4
  · rw [if_pos c5] at H
    have c5b0 : decide (a1 < a0_4) = true := decide_eq_true c5
    clear c5
    simp only [Option.some.injEq, Prod.mk.injEq] at H
    obtain ⟨rfl, rfl, rfl, rfl, rfl, rfl, rfl⟩ := H
    go_enter Try.func34, Try.ntmps34
    try go_wp2_with (first | ((with_reducible refine gate_dst (N := 2) rfl ?_); refine bE_ 2 #[.slice A0_0 l0_0.length c0_0, .slice A0_1 l0_1.length c0_1, .int .u64 a0_2, .slice A0_3 l0_3.length c0_3, .int .u32 a0_4, .int .u32 a0_5] 63 ?_; intro gb697 hg w6 hbox hb; have BK697 := Aside0.mk hbox; have GW697 := geT_ w.heap.size hg; have GE697 := geT_ w.heap.size hg; replace HO0_0 := vE_ HO0_0.out hg hb; replace HO0_1 := vE_ HO0_1.out hg hb; replace HO0_3 := vE_ HO0_3.out hg hb; replace HB := hB_ hb; clear hb hbox hg) | ((with_reducible refine gate_dst (N := 4) rfl ?_); refine bE_ 4 #[.slice none 0 0, .slice none 0 0, .int .u64 0, .slice none 0 0, .int .u32 0, .int .u32 0] 63 ?_; intro gb698 hg w7 hbox hb; have BK698 := Aside0.mk hbox; have GW698 := geT_ w.heap.size hg; have GE698 := geT_ w.heap.size hg; have NB697_698 := nlT_ BK697.out hg; have NB698_697 := ngT_ BK697.out hg; replace HO0_0 := vE_ HO0_0.out hg hb; replace HO0_1 := vE_ HO0_1.out hg hb; replace HO0_3 := vE_ HO0_3.out hg hb; replace BK697 := kB_ BK697 hb; replace HB := hB_ hb; clear hb hbox hg; have hnb8 := NB697_698.out; have hnc8 := NB698_697.out; obtain ⟨hcz9_0, hcz9_1, hcz9_2, hcz9_3, hcz9_4, hcz9_5, hfz9_0, hfz9_1, hfz9_2, hfz9_3, hfz9_4, hfz9_5⟩ := b6_ BK697.out) | ((with_reducible refine gate_callee (f := 62) rfl ?_); refine gL_ (some 12) Try.func62 #[.int .u32 a0_5] ?_; (with_reducible refine (gmap_count.calls a0_5 t699 _ A3.out).mono ?_); rintro e w' ⟨rfl, ⟨nd, rfl⟩⟩; refine ⟨_, rfl, ?_⟩; (try (rw [drewN_self w7]; generalize hq_ : World.drewN w7 _ = w7; replace HO0_0 : Aside0 (Kd.V k83 83 w7 w.heap.size (fun k_ => ((P0_0_ k_ ∨ P0_1_ k_ ∨ P0_3_ k_) ∨ w.heap.size ≤ k_) ∧ k_ ≠ gb697 ∧ k_ ≠ gb698) (.slice A0_0 l0_0.length c0_0) l0_0) := ⟨by rw [← hq_]; exact (vM_ HO0_0.out)⟩; replace HO0_1 : Aside0 (Kd.V k88 88 w7 w.heap.size (fun k_ => ((P0_0_ k_ ∨ P0_1_ k_ ∨ P0_3_ k_) ∨ w.heap.size ≤ k_) ∧ k_ ≠ gb697 ∧ k_ ≠ gb698) (.slice A0_1 l0_1.length c0_1) l0_1) := ⟨by rw [← hq_]; exact (vM_ HO0_1.out)⟩; replace HO0_3 : Aside0 (Kd.V k41 41 w7 w.heap.size (fun k_ => ((P0_0_ k_ ∨ P0_1_ k_ ∨ P0_3_ k_) ∨ w.heap.size ≤ k_) ∧ k_ ≠ gb697 ∧ k_ ≠ gb698) (.slice A0_3 l0_3.length c0_3) l0_3) := ⟨by rw [← hq_]; exact (vM_ HO0_3.out)⟩; replace BK697 : Aside0 (w7.heap[gb697]? = some (.cells #[.slice A0_0 l0_0.length c0_0, .slice A0_1 l0_1.length c0_1, .int .u64 a0_2, .slice A0_3 l0_3.length c0_3, .int .u32 a0_4, .int .u32 a0_5] 63 (0, 0))) := ⟨by rw [← hq_]; exact (bT_ BK697.out)⟩; replace BK698 : Aside0 (w7.heap[gb698]? = some (.cells #[.slice none 0 0, .slice none 0 0, .int .u64 0, .slice none 0 0, .int .u32 0, .int .u32 0] 63 (0, 0))) := ⟨by rw [← hq_]; exact (bT_ BK698.out)⟩; replace HB : Aside0 (Below w.heap.size w w7) := ⟨by rw [← hq_]; exact beT_⟩; clear hq_; have hcy697_0 : w7.cell? ⟨gb697, 0, none⟩ = some (.slice A0_0 l0_0.length c0_0) := (blk_cell BK697.out 0).trans rfl; have hcy697_1 : w7.cell? ⟨gb697, 1, none⟩ = some (.slice A0_1 l0_1.length c0_1) := (blk_cell BK697.out 1).trans rfl; have hcy697_2 : w7.cell? ⟨gb697, 2, none⟩ = some (.int .u64 a0_2) := (blk_cell BK697.out 2).trans rfl; have hcy697_3 : w7.cell? ⟨gb697, 3, none⟩ = some (.slice A0_3 l0_3.length c0_3) := (blk_cell BK697.out 3).trans rfl; have hcy697_4 : w7.cell? ⟨gb697, 4, none⟩ = some (.int .u32 a0_4) := (blk_cell BK697.out 4).trans rfl; have hcy697_5 : w7.cell? ⟨gb697, 5, none⟩ = some (.int .u32 a0_5) := (blk_cell BK697.out 5).trans rfl; have hcy698_0 : w7.cell? ⟨gb698, 0, none⟩ = some (.slice none 0 0) := (blk_cell BK698.out 0).trans rfl; have hcy698_1 : w7.cell? ⟨gb698, 1, none⟩ = some (.slice none 0 0) := (blk_cell BK698.out 1).trans rfl; have hcy698_2 : w7.cell? ⟨gb698, 2, none⟩ = some (.int .u64 0) := (blk_cell BK698.out 2).trans rfl; have hcy698_3 : w7.cell? ⟨gb698, 3, none⟩ = some (.slice none 0 0) := (blk_cell BK698.out 3).trans rfl; have hcy698_4 : w7.cell? ⟨gb698, 4, none⟩ = some (.int .u32 0) := (blk_cell BK698.out 4).trans rfl; have hcy698_5 : w7.cell? ⟨gb698, 5, none⟩ = some (.int .u32 0) := (blk_cell BK698.out 5).trans rfl))) | ((with_reducible refine gate_callee (f := 62) rfl ?_); refine gL_ (some 14) Try.func62 #[.int .u32 a1] ?_; (with_reducible refine (gmap_count.calls a1 t700 _ A4.out).mono ?_); rintro e w' ⟨rfl, ⟨nd, rfl⟩⟩; refine ⟨_, rfl, ?_⟩; (try (rw [drewN_self w7]; generalize hq_ : World.drewN w7 _ = w7; replace HO0_0 : Aside0 (Kd.V k83 83 w7 w.heap.size (fun k_ => ((P0_0_ k_ ∨ P0_1_ k_ ∨ P0_3_ k_) ∨ w.heap.size ≤ k_) ∧ k_ ≠ gb697 ∧ k_ ≠ gb698) (.slice A0_0 l0_0.length c0_0) l0_0) := ⟨by rw [← hq_]; exact (vM_ HO0_0.out)⟩; replace HO0_1 : Aside0 (Kd.V k88 88 w7 w.heap.size (fun k_ => ((P0_0_ k_ ∨ P0_1_ k_ ∨ P0_3_ k_) ∨ w.heap.size ≤ k_) ∧ k_ ≠ gb697 ∧ k_ ≠ gb698) (.slice A0_1 l0_1.length c0_1) l0_1) := ⟨by rw [← hq_]; exact (vM_ HO0_1.out)⟩; replace HO0_3 : Aside0 (Kd.V k41 41 w7 w.heap.size (fun k_ => ((P0_0_ k_ ∨ P0_1_ k_ ∨ P0_3_ k_) ∨ w.heap.size ≤ k_) ∧ k_ ≠ gb697 ∧ k_ ≠ gb698) (.slice A0_3 l0_3.length c0_3) l0_3) := ⟨by rw [← hq_]; exact (vM_ HO0_3.out)⟩; replace BK697 : Aside0 (w7.heap[gb697]? = some (.cells #[.slice A0_0 l0_0.length c0_0, .slice A0_1 l0_1.length c0_1, .int .u64 a0_2, .slice A0_3 l0_3.length c0_3, .int .u32 a0_4, .int .u32 a0_5] 63 (0, 0))) := ⟨by rw [← hq_]; exact (bT_ BK697.out)⟩; replace BK698 : Aside0 (w7.heap[gb698]? = some (.cells #[.slice none 0 0, .slice none 0 0, .int .u64 0, .slice none 0 0, .int .u32 0, .int .u32 0] 63 (0, 0))) := ⟨by rw [← hq_]; exact (bT_ BK698.out)⟩; replace HB : Aside0 (Below w.heap.size w w7) := ⟨by rw [← hq_]; exact beT_⟩; clear hq_; have hcy697_0 : w7.cell? ⟨gb697, 0, none⟩ = some (.slice A0_0 l0_0.length c0_0) := (blk_cell BK697.out 0).trans rfl; have hcy697_1 : w7.cell? ⟨gb697, 1, none⟩ = some (.slice A0_1 l0_1.length c0_1) := (blk_cell BK697.out 1).trans rfl; have hcy697_2 : w7.cell? ⟨gb697, 2, none⟩ = some (.int .u64 a0_2) := (blk_cell BK697.out 2).trans rfl; have hcy697_3 : w7.cell? ⟨gb697, 3, none⟩ = some (.slice A0_3 l0_3.length c0_3) := (blk_cell BK697.out 3).trans rfl; have hcy697_4 : w7.cell? ⟨gb697, 4, none⟩ = some (.int .u32 a0_4) := (blk_cell BK697.out 4).trans rfl; have hcy697_5 : w7.cell? ⟨gb697, 5, none⟩ = some (.int .u32 a0_5) := (blk_cell BK697.out 5).trans rfl; have hcy698_0 : w7.cell? ⟨gb698, 0, none⟩ = some (.slice none 0 0) := (blk_cell BK698.out 0).trans rfl; have hcy698_1 : w7.cell? ⟨gb698, 1, none⟩ = some (.slice none 0 0) := (blk_cell BK698.out 1).trans rfl; have hcy698_2 : w7.cell? ⟨gb698, 2, none⟩ = some (.int .u64 0) := (blk_cell BK698.out 2).trans rfl; have hcy698_3 : w7.cell? ⟨gb698, 3, none⟩ = some (.slice none 0 0) := (blk_cell BK698.out 3).trans rfl; have hcy698_4 : w7.cell? ⟨gb698, 4, none⟩ = some (.int .u32 0) := (blk_cell BK698.out 4).trans rfl; have hcy698_5 : w7.cell? ⟨gb698, 5, none⟩ = some (.int .u32 0) := (blk_cell BK698.out 5).trans rfl))))
    replace HO0_0 := Aside0.mk (Kd.V_drew HO0_0.out)
    replace HO0_1 := Aside0.mk (Kd.V_drew HO0_1.out)
    replace HO0_3 := Aside0.mk (Kd.V_drew HO0_3.out)
    replace BK697 := Aside0.mk (blk_drew BK697.out)
    replace BK698 := Aside0.mk (blk_drew BK698.out)
    replace HB := Aside0.mk (below_drew1 HB.out)
    refine start_ (n := 5) (S := fun w' => w'.cell? ⟨gb697, 0, none⟩ = some (.slice A0_0 l0_0.length c0_0) ∧ w'.cell? ⟨gb697, 1, none⟩ = some (.slice A0_1 l0_1.length c0_1) ∧ w'.cell? ⟨gb697, 2, none⟩ = some (.int .u64 a0_2) ∧ w'.cell? ⟨gb697, 3, none⟩ = some (.slice A0_3 l0_3.length c0_3) ∧ w'.cell? ⟨gb697, 4, none⟩ = some (.int .u32 a0_4) ∧ w'.cell? ⟨gb697, 5, none⟩ = some (.int .u32 a0_5)) (ds := []) (mb_ 5 0) (by kernel_rfl) rfl rfl ⟨(blk_cell BK697.out 0).trans rfl, (blk_cell BK697.out 1).trans rfl, (blk_cell BK697.out 2).trans rfl, (blk_cell BK697.out 3).trans rfl, (blk_cell BK697.out 4).trans rfl, (blk_cell BK697.out 5).trans rfl⟩ (fun hHeld => ?_)
    generalize w7.drew = w10 at HO0_0 HO0_1 HO0_3 BK697 BK698 HB hHeld ⊢
    refine pure_ (i := 1) (N := some 20) (v := ?_) (a' := ?_) (mb_ 5 2) rfl rfl (by kernel_rfl) (fun _ _ _ h => h) (Or.inl ⟨by rfl, ?_⟩) ?_ ?_
    rotate_left
    · intro w'
      go_simp
      with_reducible rfl
    rotate_left
    · simp only [Act.put, List.setIfInBounds_toArray, List.set_cons_zero, List.set_cons_succ, i64_w, i32_w]
      rfl
    refine take_ (i := 0) (N := some 19) (v := ?_) (a' := ?_) (mb_ 5 3) rfl rfl (by kernel_rfl) (fun _ _ _ h => h) (Or.inl ⟨by rfl, ?_⟩) hHeld ?_ ?_
    rotate_left
    · rintro w' ⟨s0, s1, s2, s3, s4, s5⟩
      go_simp
      with_reducible rfl
    rotate_left
    · simp only [Act.put, List.setIfInBounds_toArray, List.set_cons_zero, List.set_cons_succ, i64_w, i32_w]
      rfl
    refine take_ (i := 2) (N := some 21) (v := ?_) (a' := ?_) (mb_ 5 7) rfl rfl (by kernel_rfl) (fun _ _ _ h => h) (Or.inl ⟨by rfl, ?_⟩) hHeld ?_ ?_
    rotate_left
    · rintro w' ⟨s0, s1, s2, s3, s4, s5⟩
      go_simp
      with_reducible rfl
    rotate_left
    · simp only [Act.put, List.setIfInBounds_toArray, List.set_cons_zero, List.set_cons_succ, i64_w, i32_w]
      rfl
    refine one_ (i := 3) (N := none) (mb_ 5 15) rfl rfl (by kernel_rfl) (by decide) (fun K hK => ?_)
    have hs11 : w10.cell? ⟨gb698, 0, none⟩ = some (.slice none 0 0) := (blk_cell BK698.out 0).trans rfl
    have hfs11 := blk_frozen BK698.out 0
    have hns11_0 := NB697_698.out
    have hms11_0 := NB698_697.out
    have hs12 : w10.cell? ⟨gb698, 1, none⟩ = some (.slice none 0 0) := (blk_cell BK698.out 1).trans rfl
    have hfs12 := blk_frozen BK698.out 1
    have hns12_0 := NB697_698.out
    have hms12_0 := NB698_697.out
    have hs13 : w10.cell? ⟨gb698, 2, none⟩ = some (.int .u64 0) := (blk_cell BK698.out 2).trans rfl
    have hfs13 := blk_frozen BK698.out 2
    have hns13_0 := NB697_698.out
    have hms13_0 := NB698_697.out
    have hs14 : w10.cell? ⟨gb698, 3, none⟩ = some (.slice none 0 0) := (blk_cell BK698.out 3).trans rfl
    have hfs14 := blk_frozen BK698.out 3
    have hns14_0 := NB697_698.out
    have hms14_0 := NB698_697.out
    have hs15 : w10.cell? ⟨gb698, 4, none⟩ = some (.int .u32 0) := (blk_cell BK698.out 4).trans rfl
    have hfs15 := blk_frozen BK698.out 4
    have hns15_0 := NB697_698.out
    have hms15_0 := NB698_697.out
    have hs16 : w10.cell? ⟨gb698, 5, none⟩ = some (.int .u32 0) := (blk_cell BK698.out 5).trans rfl
    have hfs16 := blk_frozen BK698.out 5
    have hns16_0 := NB697_698.out
    have hms16_0 := NB698_697.out
    refine skip_ (w1 := ?_) (by rfl) rfl ?_ ?_
    rotate_left
    · go_simp
      rfl
    refine hK.out _ _ ⟨((cell_far (p := ⟨gb698, _, none⟩) NB697_698.out _).trans (((cell_far (p := ⟨gb698, _, none⟩) NB697_698.out _).trans (((cell_far (p := ⟨gb698, _, none⟩) NB697_698.out _).trans (((cell_far (p := ⟨gb698, _, none⟩) NB697_698.out _).trans (((cell_far (p := ⟨gb698, _, none⟩) NB697_698.out _).trans (((cell_far (p := ⟨gb698, _, none⟩) NB697_698.out _).trans (hHeld.1)))))))))))), ((cell_far (p := ⟨gb698, _, none⟩) NB697_698.out _).trans (((cell_far (p := ⟨gb698, _, none⟩) NB697_698.out _).trans (((cell_far (p := ⟨gb698, _, none⟩) NB697_698.out _).trans (((cell_far (p := ⟨gb698, _, none⟩) NB697_698.out _).trans (((cell_far (p := ⟨gb698, _, none⟩) NB697_698.out _).trans (((cell_far (p := ⟨gb698, _, none⟩) NB697_698.out _).trans (hHeld.2.1)))))))))))), ((cell_far (p := ⟨gb698, _, none⟩) NB697_698.out _).trans (((cell_far (p := ⟨gb698, _, none⟩) NB697_698.out _).trans (((cell_far (p := ⟨gb698, _, none⟩) NB697_698.out _).trans (((cell_far (p := ⟨gb698, _, none⟩) NB697_698.out _).trans (((cell_far (p := ⟨gb698, _, none⟩) NB697_698.out _).trans (((cell_far (p := ⟨gb698, _, none⟩) NB697_698.out _).trans (hHeld.2.2.1)))))))))))), ((cell_far (p := ⟨gb698, _, none⟩) NB697_698.out _).trans (((cell_far (p := ⟨gb698, _, none⟩) NB697_698.out _).trans (((cell_far (p := ⟨gb698, _, none⟩) NB697_698.out _).trans (((cell_far (p := ⟨gb698, _, none⟩) NB697_698.out _).trans (((cell_far (p := ⟨gb698, _, none⟩) NB697_698.out _).trans (((cell_far (p := ⟨gb698, _, none⟩) NB697_698.out _).trans (hHeld.2.2.2.1)))))))))))), ((cell_far (p := ⟨gb698, _, none⟩) NB697_698.out _).trans (((cell_far (p := ⟨gb698, _, none⟩) NB697_698.out _).trans (((cell_far (p := ⟨gb698, _, none⟩) NB697_698.out _).trans (((cell_far (p := ⟨gb698, _, none⟩) NB697_698.out _).trans (((cell_far (p := ⟨gb698, _, none⟩) NB697_698.out _).trans (((cell_far (p := ⟨gb698, _, none⟩) NB697_698.out _).trans (hHeld.2.2.2.2.1)))))))))))), ((cell_far (p := ⟨gb698, _, none⟩) NB697_698.out _).trans (((cell_far (p := ⟨gb698, _, none⟩) NB697_698.out _).trans (((cell_far (p := ⟨gb698, _, none⟩) NB697_698.out _).trans (((cell_far (p := ⟨gb698, _, none⟩) NB697_698.out _).trans (((cell_far (p := ⟨gb698, _, none⟩) NB697_698.out _).trans (((cell_far (p := ⟨gb698, _, none⟩) NB697_698.out _).trans (hHeld.2.2.2.2.2))))))))))))⟩ (fun hHeld => ?_)
    clear hK K
    refine pure_ (i := 4) (N := some 5) (v := ?_) (a' := ?_) (mb_ 5 31) rfl rfl (by kernel_rfl) (fun _ _ _ h => h) (Or.inl ⟨by rfl, ?_⟩) ?_ ?_
    rotate_left
    · intro w'
      go_simp
      with_reducible rfl
    rotate_left
    · simp only [Act.put, List.setIfInBounds_toArray, List.set_cons_zero, List.set_cons_succ, i64_w, i32_w]
      rfl
    refine done_ (by kernel_rfl) ?_
    try go_wp2
    refine bodyPost_ret (results_ct rfl _ _ gb698 63 #[.slice A0_0 l0_0.length c0_0, .slice A0_1 l0_1.length c0_1, .int .u64 a0_2, .slice A0_3 l0_3.length c0_3, .int .u32 a0_4, .int .u32 a0_5] (0, 0) _ rfl (kP_ BK698.out) Try.underlying63 rfl (by kernel_rfl)) rfl ?_
    exact ⟨_, _, _, r3_, (vF_ HO0_0.out), (vF_ HO0_1.out), (vF_ HO0_3.out), beT_⟩
  rw [if_neg c5] at H
  have c5b0 : decide (a1 < a0_4) = false := decide_eq_false c5
  clear c5
  by_cases c17 : t700 > t699
  · rw [if_pos c17] at H
    have c17b0 : decide (t699 < t700) = true := decide_eq_true c17
    clear c17
    have HC18 := Aside0.mk H
    clear H
    go_enter Try.func34, Try.ntmps34
    go_upto_region 6 with (first | ((with_reducible refine gate_dst (N := 2) rfl ?_); refine bE_ 2 #[.slice A0_0 l0_0.length c0_0, .slice A0_1 l0_1.length c0_1, .int .u64 a0_2, .slice A0_3 l0_3.length c0_3, .int .u32 a0_4, .int .u32 a0_5] 63 ?_; intro gb697 hg w19 hbox hb; have BK697 := Aside0.mk hbox; have GW697 := geT_ w.heap.size hg; have GE697 := geT_ w.heap.size hg; replace HO0_0 := vE_ HO0_0.out hg hb; replace HO0_1 := vE_ HO0_1.out hg hb; replace HO0_3 := vE_ HO0_3.out hg hb; replace HB := hB_ hb; clear hb hbox hg) | ((with_reducible refine gate_dst (N := 4) rfl ?_); refine bE_ 4 #[.slice none 0 0, .slice none 0 0, .int .u64 0, .slice none 0 0, .int .u32 0, .int .u32 0] 63 ?_; intro gb698 hg w20 hbox hb; have BK698 := Aside0.mk hbox; have GW698 := geT_ w.heap.size hg; have GE698 := geT_ w.heap.size hg; have NB697_698 := nlT_ BK697.out hg; have NB698_697 := ngT_ BK697.out hg; replace HO0_0 := vE_ HO0_0.out hg hb; replace HO0_1 := vE_ HO0_1.out hg hb; replace HO0_3 := vE_ HO0_3.out hg hb; replace BK697 := kB_ BK697 hb; replace HB := hB_ hb; clear hb hbox hg; have hnb21 := NB697_698.out; have hnc21 := NB698_697.out; obtain ⟨hcz22_0, hcz22_1, hcz22_2, hcz22_3, hcz22_4, hcz22_5, hfz22_0, hfz22_1, hfz22_2, hfz22_3, hfz22_4, hfz22_5⟩ := b6_ BK697.out) | ((with_reducible refine gate_callee (f := 62) rfl ?_); refine gL_ (some 12) Try.func62 #[.int .u32 a0_5] ?_; (with_reducible refine (gmap_count.calls a0_5 t699 _ A3.out).mono ?_); rintro e w' ⟨rfl, ⟨nd, rfl⟩⟩; refine ⟨_, rfl, ?_⟩; (try (rw [drewN_self w20]; generalize hq_ : World.drewN w20 _ = w20; replace HO0_0 : Aside0 (Kd.V k83 83 w20 w.heap.size (fun k_ => ((P0_0_ k_ ∨ P0_1_ k_ ∨ P0_3_ k_) ∨ w.heap.size ≤ k_) ∧ k_ ≠ gb697 ∧ k_ ≠ gb698) (.slice A0_0 l0_0.length c0_0) l0_0) := ⟨by rw [← hq_]; exact (vM_ HO0_0.out)⟩; replace HO0_1 : Aside0 (Kd.V k88 88 w20 w.heap.size (fun k_ => ((P0_0_ k_ ∨ P0_1_ k_ ∨ P0_3_ k_) ∨ w.heap.size ≤ k_) ∧ k_ ≠ gb697 ∧ k_ ≠ gb698) (.slice A0_1 l0_1.length c0_1) l0_1) := ⟨by rw [← hq_]; exact (vM_ HO0_1.out)⟩; replace HO0_3 : Aside0 (Kd.V k41 41 w20 w.heap.size (fun k_ => ((P0_0_ k_ ∨ P0_1_ k_ ∨ P0_3_ k_) ∨ w.heap.size ≤ k_) ∧ k_ ≠ gb697 ∧ k_ ≠ gb698) (.slice A0_3 l0_3.length c0_3) l0_3) := ⟨by rw [← hq_]; exact (vM_ HO0_3.out)⟩; replace BK697 : Aside0 (w20.heap[gb697]? = some (.cells #[.slice A0_0 l0_0.length c0_0, .slice A0_1 l0_1.length c0_1, .int .u64 a0_2, .slice A0_3 l0_3.length c0_3, .int .u32 a0_4, .int .u32 a0_5] 63 (0, 0))) := ⟨by rw [← hq_]; exact (bT_ BK697.out)⟩; replace BK698 : Aside0 (w20.heap[gb698]? = some (.cells #[.slice none 0 0, .slice none 0 0, .int .u64 0, .slice none 0 0, .int .u32 0, .int .u32 0] 63 (0, 0))) := ⟨by rw [← hq_]; exact (bT_ BK698.out)⟩; replace HB : Aside0 (Below w.heap.size w w20) := ⟨by rw [← hq_]; exact beT_⟩; clear hq_; have hcy697_0 : w20.cell? ⟨gb697, 0, none⟩ = some (.slice A0_0 l0_0.length c0_0) := (blk_cell BK697.out 0).trans rfl; have hcy697_1 : w20.cell? ⟨gb697, 1, none⟩ = some (.slice A0_1 l0_1.length c0_1) := (blk_cell BK697.out 1).trans rfl; have hcy697_2 : w20.cell? ⟨gb697, 2, none⟩ = some (.int .u64 a0_2) := (blk_cell BK697.out 2).trans rfl; have hcy697_3 : w20.cell? ⟨gb697, 3, none⟩ = some (.slice A0_3 l0_3.length c0_3) := (blk_cell BK697.out 3).trans rfl; have hcy697_4 : w20.cell? ⟨gb697, 4, none⟩ = some (.int .u32 a0_4) := (blk_cell BK697.out 4).trans rfl; have hcy697_5 : w20.cell? ⟨gb697, 5, none⟩ = some (.int .u32 a0_5) := (blk_cell BK697.out 5).trans rfl; have hcy698_0 : w20.cell? ⟨gb698, 0, none⟩ = some (.slice none 0 0) := (blk_cell BK698.out 0).trans rfl; have hcy698_1 : w20.cell? ⟨gb698, 1, none⟩ = some (.slice none 0 0) := (blk_cell BK698.out 1).trans rfl; have hcy698_2 : w20.cell? ⟨gb698, 2, none⟩ = some (.int .u64 0) := (blk_cell BK698.out 2).trans rfl; have hcy698_3 : w20.cell? ⟨gb698, 3, none⟩ = some (.slice none 0 0) := (blk_cell BK698.out 3).trans rfl; have hcy698_4 : w20.cell? ⟨gb698, 4, none⟩ = some (.int .u32 0) := (blk_cell BK698.out 4).trans rfl; have hcy698_5 : w20.cell? ⟨gb698, 5, none⟩ = some (.int .u32 0) := (blk_cell BK698.out 5).trans rfl))) | ((with_reducible refine gate_callee (f := 62) rfl ?_); refine gL_ (some 14) Try.func62 #[.int .u32 a1] ?_; (with_reducible refine (gmap_count.calls a1 t700 _ A4.out).mono ?_); rintro e w' ⟨rfl, ⟨nd, rfl⟩⟩; refine ⟨_, rfl, ?_⟩; (try (rw [drewN_self w20]; generalize hq_ : World.drewN w20 _ = w20; replace HO0_0 : Aside0 (Kd.V k83 83 w20 w.heap.size (fun k_ => ((P0_0_ k_ ∨ P0_1_ k_ ∨ P0_3_ k_) ∨ w.heap.size ≤ k_) ∧ k_ ≠ gb697 ∧ k_ ≠ gb698) (.slice A0_0 l0_0.length c0_0) l0_0) := ⟨by rw [← hq_]; exact (vM_ HO0_0.out)⟩; replace HO0_1 : Aside0 (Kd.V k88 88 w20 w.heap.size (fun k_ => ((P0_0_ k_ ∨ P0_1_ k_ ∨ P0_3_ k_) ∨ w.heap.size ≤ k_) ∧ k_ ≠ gb697 ∧ k_ ≠ gb698) (.slice A0_1 l0_1.length c0_1) l0_1) := ⟨by rw [← hq_]; exact (vM_ HO0_1.out)⟩; replace HO0_3 : Aside0 (Kd.V k41 41 w20 w.heap.size (fun k_ => ((P0_0_ k_ ∨ P0_1_ k_ ∨ P0_3_ k_) ∨ w.heap.size ≤ k_) ∧ k_ ≠ gb697 ∧ k_ ≠ gb698) (.slice A0_3 l0_3.length c0_3) l0_3) := ⟨by rw [← hq_]; exact (vM_ HO0_3.out)⟩; replace BK697 : Aside0 (w20.heap[gb697]? = some (.cells #[.slice A0_0 l0_0.length c0_0, .slice A0_1 l0_1.length c0_1, .int .u64 a0_2, .slice A0_3 l0_3.length c0_3, .int .u32 a0_4, .int .u32 a0_5] 63 (0, 0))) := ⟨by rw [← hq_]; exact (bT_ BK697.out)⟩; replace BK698 : Aside0 (w20.heap[gb698]? = some (.cells #[.slice none 0 0, .slice none 0 0, .int .u64 0, .slice none 0 0, .int .u32 0, .int .u32 0] 63 (0, 0))) := ⟨by rw [← hq_]; exact (bT_ BK698.out)⟩; replace HB : Aside0 (Below w.heap.size w w20) := ⟨by rw [← hq_]; exact beT_⟩; clear hq_; have hcy697_0 : w20.cell? ⟨gb697, 0, none⟩ = some (.slice A0_0 l0_0.length c0_0) := (blk_cell BK697.out 0).trans rfl; have hcy697_1 : w20.cell? ⟨gb697, 1, none⟩ = some (.slice A0_1 l0_1.length c0_1) := (blk_cell BK697.out 1).trans rfl; have hcy697_2 : w20.cell? ⟨gb697, 2, none⟩ = some (.int .u64 a0_2) := (blk_cell BK697.out 2).trans rfl; have hcy697_3 : w20.cell? ⟨gb697, 3, none⟩ = some (.slice A0_3 l0_3.length c0_3) := (blk_cell BK697.out 3).trans rfl; have hcy697_4 : w20.cell? ⟨gb697, 4, none⟩ = some (.int .u32 a0_4) := (blk_cell BK697.out 4).trans rfl; have hcy697_5 : w20.cell? ⟨gb697, 5, none⟩ = some (.int .u32 a0_5) := (blk_cell BK697.out 5).trans rfl; have hcy698_0 : w20.cell? ⟨gb698, 0, none⟩ = some (.slice none 0 0) := (blk_cell BK698.out 0).trans rfl; have hcy698_1 : w20.cell? ⟨gb698, 1, none⟩ = some (.slice none 0 0) := (blk_cell BK698.out 1).trans rfl; have hcy698_2 : w20.cell? ⟨gb698, 2, none⟩ = some (.int .u64 0) := (blk_cell BK698.out 2).trans rfl; have hcy698_3 : w20.cell? ⟨gb698, 3, none⟩ = some (.slice none 0 0) := (blk_cell BK698.out 3).trans rfl; have hcy698_4 : w20.cell? ⟨gb698, 4, none⟩ = some (.int .u32 0) := (blk_cell BK698.out 4).trans rfl; have hcy698_5 : w20.cell? ⟨gb698, 5, none⟩ = some (.int .u32 0) := (blk_cell BK698.out 5).trans rfl))) | ((with_reducible refine gate_dst (N := 8) rfl ?_); refine bE_ 8 #[.slice none 0 0, .slice none 0 0, .int .u64 0, .slice none 0 0] 29 ?_; intro gb701 hg w23 hbox hb; have BK701 := Aside0.mk hbox; have GW701 := geT_ w.heap.size hg; have GE701 := geT_ w.heap.size hg; have NB697_701 := nlT_ BK697.out hg; have NB701_697 := ngT_ BK697.out hg; have NB698_701 := nlT_ BK698.out hg; have NB701_698 := ngT_ BK698.out hg; replace HO0_0 := vE_ HO0_0.out hg hb; replace HO0_1 := vE_ HO0_1.out hg hb; replace HO0_3 := vE_ HO0_3.out hg hb; replace BK697 := kB_ BK697 hb; replace BK698 := kB_ BK698 hb; replace HB := hB_ hb; clear hb hbox hg; have hnb24 := NB701_697.out; have hnc24 := NB697_701.out; have hnb25 := NB701_698.out; have hnc25 := NB698_701.out; obtain ⟨hcz26_0, hcz26_1, hcz26_2, hcz26_3, hfz26_0, hfz26_1, hfz26_2, hfz26_3⟩ := b4_ BK701.out))
    (try simp only [Act.put, List.setIfInBounds_toArray, List.set_cons_zero, List.set_cons_succ])
    go_cut [37] (fun v37 wc => ∃ (kq : Nat) (x37_17 : Bool), v37 = .bool x37_17 ∧ Aside0 (gmap_Brk.j0 kq a1 t699 t700 x37_17 l0_0 l0_1 a0_2 l0_3 a0_4 a0_5 l0_0 l0_1 a0_2 l0_3 = some (r1, r2, r3, r4, r5, r6, r7)) ∧ Aside0 (kq ≤ k) ∧ Aside0 (Kd.V k83 83 wc w.heap.size (fun k_ => ((P0_0_ k_ ∨ P0_1_ k_ ∨ P0_3_ k_) ∨ w.heap.size ≤ k_) ∧ k_ ≠ gb697 ∧ k_ ≠ gb698 ∧ k_ ≠ gb701) (.slice A0_0 l0_0.length c0_0) l0_0) ∧ Aside0 (Kd.V k88 88 wc w.heap.size (fun k_ => ((P0_0_ k_ ∨ P0_1_ k_ ∨ P0_3_ k_) ∨ w.heap.size ≤ k_) ∧ k_ ≠ gb697 ∧ k_ ≠ gb698 ∧ k_ ≠ gb701) (.slice A0_1 l0_1.length c0_1) l0_1) ∧ Aside0 (Kd.V k41 41 wc w.heap.size (fun k_ => ((P0_0_ k_ ∨ P0_1_ k_ ∨ P0_3_ k_) ∨ w.heap.size ≤ k_) ∧ k_ ≠ gb697 ∧ k_ ≠ gb698 ∧ k_ ≠ gb701) (.slice A0_3 l0_3.length c0_3) l0_3) ∧ Aside0 (Kd.V k83 83 wc w.heap.size (fun k_ => ((P0_0_ k_ ∨ P0_1_ k_ ∨ P0_3_ k_) ∨ w.heap.size ≤ k_) ∧ k_ ≠ gb697 ∧ k_ ≠ gb698 ∧ k_ ≠ gb701) (.slice A0_0 l0_0.length c0_0) l0_0) ∧ Aside0 (Kd.V k88 88 wc w.heap.size (fun k_ => ((P0_0_ k_ ∨ P0_1_ k_ ∨ P0_3_ k_) ∨ w.heap.size ≤ k_) ∧ k_ ≠ gb697 ∧ k_ ≠ gb698 ∧ k_ ≠ gb701) (.slice A0_1 l0_1.length c0_1) l0_1) ∧ Aside0 (Kd.V k41 41 wc w.heap.size (fun k_ => ((P0_0_ k_ ∨ P0_1_ k_ ∨ P0_3_ k_) ∨ w.heap.size ≤ k_) ∧ k_ ≠ gb697 ∧ k_ ≠ gb698 ∧ k_ ≠ gb701) (.slice A0_3 l0_3.length c0_3) l0_3) ∧ Aside0 (wc.heap[gb697]? = some (.cells #[(.slice A0_0 l0_0.length c0_0), (.slice A0_1 l0_1.length c0_1), .int .u64 a0_2, (.slice A0_3 l0_3.length c0_3), .int .u32 a0_4, .int .u32 a0_5] 63 (0, 0))) ∧ Aside0 (wc.heap[gb698]? = some (.cells #[(.slice none 0 0), (.slice none 0 0), .int .u64 0, (.slice none 0 0), .int .u32 0, .int .u32 0] 63 (0, 0))) ∧ Aside0 (wc.heap[gb701]? = some (.cells #[(.slice A0_0 l0_0.length c0_0), (.slice A0_1 l0_1.length c0_1), .int .u64 a0_2, (.slice A0_3 l0_3.length c0_3)] 29 (0, 0))) ∧ Aside0 (Below w.heap.size w wc))
    case first =>
      have H := HC18.out
      clear HC18
      by_cases c27 : t700 > 458752
      · rw [if_pos c27] at H
        have c27b0 : decide (458752 < t700) = true := decide_eq_true c27
        clear c27
        (first | rw [c27b0] | (simp only [i64_w, i32_w]; rw [c27b0]) | skip)
        have H' := Aside0.mk H
        clear H
        go_wp2
        go_meet
        case rel => exact ⟨_, (true), r1_, H', ⟨r2_⟩, ⟨vF_ HO0_0.out⟩, ⟨vF_ HO0_1.out⟩, ⟨vF_ HO0_3.out⟩, ⟨vF_ HO0_0.out⟩, ⟨vF_ HO0_1.out⟩, ⟨vF_ HO0_3.out⟩, ⟨bfT_ BK697.out⟩, ⟨bfT_ BK698.out⟩, ⟨kP_ BK701.out⟩, ⟨beT_⟩⟩
      rw [if_neg c27] at H
      have c27b0 : decide (458752 < t700) = false := decide_eq_false c27
      clear c27
      (first | rw [c27b0] | (simp only [i64_w, i32_w]; rw [c27b0]) | skip)
      replace H := Option.bind_eq_some_iff.mp H
      obtain ⟨t702, A280, H⟩ := H
      have A28 := Aside0.mk A280
      clear A280
      have H' := Aside0.mk H
      clear H
      have hnb29 := NB701_697.out
      have hnc29 := NB697_701.out
      have hnb30 := NB701_698.out
      have hnc30 := NB698_701.out
      obtain ⟨hcz31_0, hcz31_1, hcz31_2, hcz31_3, hfz31_0, hfz31_1, hfz31_2, hfz31_3⟩ := b4_ BK701.out
      go_wp2_with (first | (go_at_call 63; (with_reducible refine (gmap_some.calls _ _ l0_0 _ _ l0_1 a0_2 _ _ l0_3 t699 ((t700 - t699) % 4294967296) t702 _ ?side1 ?side2 ?side3 ?side4 ?side5 ?side6 A28.out).mono ?_); (case side1 => refine (Kd.V_reads' (e := 83) (base := w.heap.size) (ok := fun _ => True) (n := l0_0.length) (c := c0_0) ?_).2.2; exact (by (with_reducible repeat (first | apply Kd.V_alloc | apply Kd.V_drewN | apply Kd.V_drew)); exact (Kd.V_mono (Kd.V_far (p := ⟨gb701, 3, none⟩) (Kd.V_far (p := ⟨gb701, 2, none⟩) (Kd.V_far (p := ⟨gb701, 1, none⟩) (Kd.V_far (p := ⟨gb701, 0, none⟩) (Kd.V_mono HO0_0.out (fun k_ hk => (⟨hk, by first | exact hk.2 | exact hk.2.1 | exact hk.2.2 | omega | grind⟩ : _ ∧ k_ ≠ gb701))) (fun _ hk => by first | exact hk.2 | grind) (.slice A0_0 l0_0.length c0_0)) (fun _ hk => by first | exact hk.2 | grind) (.slice A0_1 l0_1.length c0_1)) (fun _ hk => by first | exact hk.2 | grind) (.int .u64 a0_2)) (fun _ hk => by first | exact hk.2 | grind) (.slice A0_3 l0_3.length c0_3)) (fun _ _ => trivial)))); (case side2 => exact (Kd.V_reads' HO0_0.out).2.1); (case side3 => refine (Kd.V_reads' (e := 88) (base := w.heap.size) (ok := fun _ => True) (n := l0_1.length) (c := c0_1) ?_).2.2; exact (by (with_reducible repeat (first | apply Kd.V_alloc | apply Kd.V_drewN | apply Kd.V_drew)); exact (Kd.V_mono (Kd.V_far (p := ⟨gb701, 3, none⟩) (Kd.V_far (p := ⟨gb701, 2, none⟩) (Kd.V_far (p := ⟨gb701, 1, none⟩) (Kd.V_far (p := ⟨gb701, 0, none⟩) (Kd.V_mono HO0_1.out (fun k_ hk => (⟨hk, by first | exact hk.2 | exact hk.2.1 | exact hk.2.2 | omega | grind⟩ : _ ∧ k_ ≠ gb701))) (fun _ hk => by first | exact hk.2 | grind) (.slice A0_0 l0_0.length c0_0)) (fun _ hk => by first | exact hk.2 | grind) (.slice A0_1 l0_1.length c0_1)) (fun _ hk => by first | exact hk.2 | grind) (.int .u64 a0_2)) (fun _ hk => by first | exact hk.2 | grind) (.slice A0_3 l0_3.length c0_3)) (fun _ _ => trivial)))); (case side4 => exact (Kd.V_reads' HO0_1.out).2.1); (case side5 => refine (Kd.V_reads' (e := 41) (base := w.heap.size) (ok := fun _ => True) (n := l0_3.length) (c := c0_3) ?_).2.2; exact (by (with_reducible repeat (first | apply Kd.V_alloc | apply Kd.V_drewN | apply Kd.V_drew)); exact (Kd.V_mono (Kd.V_far (p := ⟨gb701, 3, none⟩) (Kd.V_far (p := ⟨gb701, 2, none⟩) (Kd.V_far (p := ⟨gb701, 1, none⟩) (Kd.V_far (p := ⟨gb701, 0, none⟩) (Kd.V_mono HO0_3.out (fun k_ hk => (⟨hk, by first | exact hk.2 | exact hk.2.1 | exact hk.2.2 | omega | grind⟩ : _ ∧ k_ ≠ gb701))) (fun _ hk => by first | exact hk.2 | grind) (.slice A0_0 l0_0.length c0_0)) (fun _ hk => by first | exact hk.2 | grind) (.slice A0_1 l0_1.length c0_1)) (fun _ hk => by first | exact hk.2 | grind) (.int .u64 a0_2)) (fun _ hk => by first | exact hk.2 | grind) (.slice A0_3 l0_3.length c0_3)) (fun _ _ => trivial)))); (case side6 => exact (Kd.V_reads' HO0_3.out).2.1); rintro e w32 ⟨rfl, hb⟩; replace HO0_0 := Aside0.mk (Kd.V_below (by (with_reducible repeat (first | apply Kd.V_alloc | apply Kd.V_drewN | apply Kd.V_drew)); exact (Kd.V_mono (Kd.V_far (p := ⟨gb701, 3, none⟩) (Kd.V_far (p := ⟨gb701, 2, none⟩) (Kd.V_far (p := ⟨gb701, 1, none⟩) (Kd.V_far (p := ⟨gb701, 0, none⟩) (Kd.V_mono HO0_0.out (fun k_ hk => (⟨hk, by first | exact hk.2 | exact hk.2.1 | exact hk.2.2 | omega | grind⟩ : _ ∧ k_ ≠ gb701))) (fun _ hk => by first | exact hk.2 | grind) (.slice A0_0 l0_0.length c0_0)) (fun _ hk => by first | exact hk.2 | grind) (.slice A0_1 l0_1.length c0_1)) (fun _ hk => by first | exact hk.2 | grind) (.int .u64 a0_2)) (fun _ hk => by first | exact hk.2 | grind) (.slice A0_3 l0_3.length c0_3)) (fun _ h_ => h_.1))) hb); replace HO0_1 := Aside0.mk (Kd.V_below (by (with_reducible repeat (first | apply Kd.V_alloc | apply Kd.V_drewN | apply Kd.V_drew)); exact (Kd.V_mono (Kd.V_far (p := ⟨gb701, 3, none⟩) (Kd.V_far (p := ⟨gb701, 2, none⟩) (Kd.V_far (p := ⟨gb701, 1, none⟩) (Kd.V_far (p := ⟨gb701, 0, none⟩) (Kd.V_mono HO0_1.out (fun k_ hk => (⟨hk, by first | exact hk.2 | exact hk.2.1 | exact hk.2.2 | omega | grind⟩ : _ ∧ k_ ≠ gb701))) (fun _ hk => by first | exact hk.2 | grind) (.slice A0_0 l0_0.length c0_0)) (fun _ hk => by first | exact hk.2 | grind) (.slice A0_1 l0_1.length c0_1)) (fun _ hk => by first | exact hk.2 | grind) (.int .u64 a0_2)) (fun _ hk => by first | exact hk.2 | grind) (.slice A0_3 l0_3.length c0_3)) (fun _ h_ => h_.1))) hb); replace HO0_3 := Aside0.mk (Kd.V_below (by (with_reducible repeat (first | apply Kd.V_alloc | apply Kd.V_drewN | apply Kd.V_drew)); exact (Kd.V_mono (Kd.V_far (p := ⟨gb701, 3, none⟩) (Kd.V_far (p := ⟨gb701, 2, none⟩) (Kd.V_far (p := ⟨gb701, 1, none⟩) (Kd.V_far (p := ⟨gb701, 0, none⟩) (Kd.V_mono HO0_3.out (fun k_ hk => (⟨hk, by first | exact hk.2 | exact hk.2.1 | exact hk.2.2 | omega | grind⟩ : _ ∧ k_ ≠ gb701))) (fun _ hk => by first | exact hk.2 | grind) (.slice A0_0 l0_0.length c0_0)) (fun _ hk => by first | exact hk.2 | grind) (.slice A0_1 l0_1.length c0_1)) (fun _ hk => by first | exact hk.2 | grind) (.int .u64 a0_2)) (fun _ hk => by first | exact hk.2 | grind) (.slice A0_3 l0_3.length c0_3)) (fun _ h_ => h_.1))) hb); replace BK697 := kB_ BK697 hb; replace BK698 := kB_ BK698 hb; replace BK701 := Aside0.mk (blk_below (g := gb701) (o := .cells #[.slice A0_0 l0_0.length c0_0, .slice A0_1 l0_1.length c0_1, .int .u64 a0_2, .slice A0_3 l0_3.length c0_3] 29 (0, 0)) (kP_ BK701.out) hb); replace HB := hB_ hb; (try clear hb); (try clear hb2); (try clear hk); (try clear hi)))
      go_meet
      case rel => exact ⟨_, (t702), r1_, H', ⟨r2_⟩, ⟨vM_ HO0_0.out⟩, ⟨vM_ HO0_1.out⟩, ⟨vM_ HO0_3.out⟩, ⟨vM_ HO0_0.out⟩, ⟨vM_ HO0_1.out⟩, ⟨vM_ HO0_3.out⟩, ⟨bT_ BK697.out⟩, ⟨bT_ BK698.out⟩, ⟨bT_ BK701.out⟩, ⟨beT_⟩⟩
    case rest =>
      clear HC18
      try clear c1
      try clear c2
      try clear p2
      try clear c3
      try clear c5
      try clear c5b0
      try clear c6
      try clear c8
      try clear c17
      try clear c17b0
      try clear c21
      try clear c24
      try clear c25
      try clear c27
      try clear c27b0
      try clear c29
      try clear c30
      try clear hcz22_0
      try clear hcz22_1
      try clear hcz22_2
      try clear hcz22_3
      try clear hcz22_4
      try clear hcz22_5
      try clear hcz26_0
      try clear hcz26_1
      try clear hcz26_2
      try clear hcz26_3
      try clear hcz31_0
      try clear hcz31_1
      try clear hcz31_2
      try clear hcz31_3
      try clear hcz9_0
      try clear hcz9_1
      try clear hcz9_2
      try clear hcz9_3
      try clear hcz9_4
      try clear hcz9_5
      try clear hfz22_0
      try clear hfz22_1
      try clear hfz22_2
      try clear hfz22_3
      try clear hfz22_4
      try clear hfz22_5
      try clear hfz26_0
      try clear hfz26_1
      try clear hfz26_2
      try clear hfz26_3
      try clear hfz31_0
      try clear hfz31_1
      try clear hfz31_2
      try clear hfz31_3
      try clear hfz9_0
      try clear hfz9_1
      try clear hfz9_2
      try clear hfz9_3
      try clear hfz9_4
      try clear hfz9_5
      obtain ⟨kq, x37_17, rfl, HA, HJ17, HO_698000, HO_698001, HO_698003, HO_702000, HO_702001, HO_702003, BK697, BK698, BK701, HB⟩ := hcut
      cases kq with
      | zero => exact absurd HA.out (by simp [gmap_Brk.j0])
      | succ kj17 =>
        have H := HA.out
        clear HA
        simp only [gmap_Brk.j0] at H
        by_cases c33 : x37_17 = true
        · subst c33
          replace H := hP_ H
          simp only [Option.some.injEq, Prod.mk.injEq] at H
          obtain ⟨rfl, rfl, rfl, rfl, rfl, rfl, rfl⟩ := H
          try go_wp2
          replace HO_698000 := Aside0.mk (Kd.V_drew HO_698000.out)
          replace HO_698001 := Aside0.mk (Kd.V_drew HO_698001.out)
          replace HO_698003 := Aside0.mk (Kd.V_drew HO_698003.out)
          replace HO_702000 := Aside0.mk (Kd.V_drew HO_702000.out)
          replace HO_702001 := Aside0.mk (Kd.V_drew HO_702001.out)
          replace HO_702003 := Aside0.mk (Kd.V_drew HO_702003.out)
          replace BK697 := Aside0.mk (blk_drew BK697.out)
          replace BK698 := Aside0.mk (blk_drew BK698.out)
          replace BK701 := Aside0.mk (blk_drew BK701.out)
          replace HB := Aside0.mk (below_drew1 HB.out)
          refine start_ (n := 5) (S := fun w' => w'.cell? ⟨gb697, 0, none⟩ = some (.slice A0_0 l0_0.length c0_0) ∧ w'.cell? ⟨gb697, 1, none⟩ = some (.slice A0_1 l0_1.length c0_1) ∧ w'.cell? ⟨gb697, 2, none⟩ = some (.int .u64 a0_2) ∧ w'.cell? ⟨gb697, 3, none⟩ = some (.slice A0_3 l0_3.length c0_3) ∧ w'.cell? ⟨gb697, 4, none⟩ = some (.int .u32 a0_4) ∧ w'.cell? ⟨gb697, 5, none⟩ = some (.int .u32 a0_5)) (ds := []) (mb_ 5 0) (by kernel_rfl) rfl rfl ⟨(blk_cell BK697.out 0).trans rfl, (blk_cell BK697.out 1).trans rfl, (blk_cell BK697.out 2).trans rfl, (blk_cell BK697.out 3).trans rfl, (blk_cell BK697.out 4).trans rfl, (blk_cell BK697.out 5).trans rfl⟩ (fun hHeld => ?_)
          generalize wc.drew = w34 at HO_698000 HO_698001 HO_698003 HO_702000 HO_702001 HO_702003 BK697 BK698 BK701 HB hHeld ⊢
          refine pure_ (i := 1) (N := some 39) (v := ?_) (a' := ?_) (mb_ 5 2) rfl rfl (by kernel_rfl) (fun _ _ _ h => h) (Or.inl ⟨by rfl, ?_⟩) ?_ ?_
          rotate_left
          · intro w'
            go_simp
            with_reducible rfl
          rotate_left
          · simp only [Act.put, List.setIfInBounds_toArray, List.set_cons_zero, List.set_cons_succ, i64_w, i32_w]
            rfl
          refine take_ (i := 0) (N := some 38) (v := ?_) (a' := ?_) (mb_ 5 3) rfl rfl (by kernel_rfl) (fun _ _ _ h => h) (Or.inl ⟨by rfl, ?_⟩) hHeld ?_ ?_
          rotate_left
          · rintro w' ⟨s0, s1, s2, s3, s4, s5⟩
            go_simp
            with_reducible rfl
          rotate_left
          · simp only [Act.put, List.setIfInBounds_toArray, List.set_cons_zero, List.set_cons_succ, i64_w, i32_w]
            rfl
          refine take_ (i := 2) (N := some 40) (v := ?_) (a' := ?_) (mb_ 5 7) rfl rfl (by kernel_rfl) (fun _ _ _ h => h) (Or.inl ⟨by rfl, ?_⟩) hHeld ?_ ?_
          rotate_left
          · rintro w' ⟨s0, s1, s2, s3, s4, s5⟩
            go_simp
            with_reducible rfl
          rotate_left
          · simp only [Act.put, List.setIfInBounds_toArray, List.set_cons_zero, List.set_cons_succ, i64_w, i32_w]
            rfl
          refine one_ (i := 3) (N := none) (mb_ 5 15) rfl rfl (by kernel_rfl) (by decide) (fun K hK => ?_)
          have hs35 : w34.cell? ⟨gb698, 0, none⟩ = some (.slice none 0 0) := (blk_cell BK698.out 0).trans rfl
          have hfs35 := blk_frozen BK698.out 0
          have hns35_0 := NB697_698.out
          have hns35_2 := NB701_698.out
          have hms35_0 := NB698_697.out
          have hms35_2 := NB698_701.out
          have hs36 : w34.cell? ⟨gb698, 1, none⟩ = some (.slice none 0 0) := (blk_cell BK698.out 1).trans rfl
          have hfs36 := blk_frozen BK698.out 1
          have hns36_0 := NB697_698.out
          have hns36_2 := NB701_698.out
          have hms36_0 := NB698_697.out
          have hms36_2 := NB698_701.out
          have hs37 : w34.cell? ⟨gb698, 2, none⟩ = some (.int .u64 0) := (blk_cell BK698.out 2).trans rfl
          have hfs37 := blk_frozen BK698.out 2
          have hns37_0 := NB697_698.out
          have hns37_2 := NB701_698.out
          have hms37_0 := NB698_697.out
          have hms37_2 := NB698_701.out
          have hs38 : w34.cell? ⟨gb698, 3, none⟩ = some (.slice none 0 0) := (blk_cell BK698.out 3).trans rfl
          have hfs38 := blk_frozen BK698.out 3
          have hns38_0 := NB697_698.out
          have hns38_2 := NB701_698.out
          have hms38_0 := NB698_697.out
          have hms38_2 := NB698_701.out
          have hs39 : w34.cell? ⟨gb698, 4, none⟩ = some (.int .u32 0) := (blk_cell BK698.out 4).trans rfl
          have hfs39 := blk_frozen BK698.out 4
          have hns39_0 := NB697_698.out
          have hns39_2 := NB701_698.out
          have hms39_0 := NB698_697.out
          have hms39_2 := NB698_701.out
          have hs40 : w34.cell? ⟨gb698, 5, none⟩ = some (.int .u32 0) := (blk_cell BK698.out 5).trans rfl
          have hfs40 := blk_frozen BK698.out 5
          have hns40_0 := NB697_698.out
          have hns40_2 := NB701_698.out
          have hms40_0 := NB698_697.out
          have hms40_2 := NB698_701.out
          refine skip_ (w1 := ?_) (by rfl) rfl ?_ ?_
          rotate_left
          · go_simp
            rfl
          refine hK.out _ _ ⟨((cell_far (p := ⟨gb698, _, none⟩) NB697_698.out _).trans (((cell_far (p := ⟨gb698, _, none⟩) NB697_698.out _).trans (((cell_far (p := ⟨gb698, _, none⟩) NB697_698.out _).trans (((cell_far (p := ⟨gb698, _, none⟩) NB697_698.out _).trans (((cell_far (p := ⟨gb698, _, none⟩) NB697_698.out _).trans (((cell_far (p := ⟨gb698, _, none⟩) NB697_698.out _).trans (hHeld.1)))))))))))), ((cell_far (p := ⟨gb698, _, none⟩) NB697_698.out _).trans (((cell_far (p := ⟨gb698, _, none⟩) NB697_698.out _).trans (((cell_far (p := ⟨gb698, _, none⟩) NB697_698.out _).trans (((cell_far (p := ⟨gb698, _, none⟩) NB697_698.out _).trans (((cell_far (p := ⟨gb698, _, none⟩) NB697_698.out _).trans (((cell_far (p := ⟨gb698, _, none⟩) NB697_698.out _).trans (hHeld.2.1)))))))))))), ((cell_far (p := ⟨gb698, _, none⟩) NB697_698.out _).trans (((cell_far (p := ⟨gb698, _, none⟩) NB697_698.out _).trans (((cell_far (p := ⟨gb698, _, none⟩) NB697_698.out _).trans (((cell_far (p := ⟨gb698, _, none⟩) NB697_698.out _).trans (((cell_far (p := ⟨gb698, _, none⟩) NB697_698.out _).trans (((cell_far (p := ⟨gb698, _, none⟩) NB697_698.out _).trans (hHeld.2.2.1)))))))))))), ((cell_far (p := ⟨gb698, _, none⟩) NB697_698.out _).trans (((cell_far (p := ⟨gb698, _, none⟩) NB697_698.out _).trans (((cell_far (p := ⟨gb698, _, none⟩) NB697_698.out _).trans (((cell_far (p := ⟨gb698, _, none⟩) NB697_698.out _).trans (((cell_far (p := ⟨gb698, _, none⟩) NB697_698.out _).trans (((cell_far (p := ⟨gb698, _, none⟩) NB697_698.out _).trans (hHeld.2.2.2.1)))))))))))), ((cell_far (p := ⟨gb698, _, none⟩) NB697_698.out _).trans (((cell_far (p := ⟨gb698, _, none⟩) NB697_698.out _).trans (((cell_far (p := ⟨gb698, _, none⟩) NB697_698.out _).trans (((cell_far (p := ⟨gb698, _, none⟩) NB697_698.out _).trans (((cell_far (p := ⟨gb698, _, none⟩) NB697_698.out _).trans (((cell_far (p := ⟨gb698, _, none⟩) NB697_698.out _).trans (hHeld.2.2.2.2.1)))))))))))), ((cell_far (p := ⟨gb698, _, none⟩) NB697_698.out _).trans (((cell_far (p := ⟨gb698, _, none⟩) NB697_698.out _).trans (((cell_far (p := ⟨gb698, _, none⟩) NB697_698.out _).trans (((cell_far (p := ⟨gb698, _, none⟩) NB697_698.out _).trans (((cell_far (p := ⟨gb698, _, none⟩) NB697_698.out _).trans (((cell_far (p := ⟨gb698, _, none⟩) NB697_698.out _).trans (hHeld.2.2.2.2.2))))))))))))⟩ (fun hHeld => ?_)
          clear hK K
          refine pure_ (i := 4) (N := some 5) (v := ?_) (a' := ?_) (mb_ 5 31) rfl rfl (by kernel_rfl) (fun _ _ _ h => h) (Or.inl ⟨by rfl, ?_⟩) ?_ ?_
          rotate_left
          · intro w'
            go_simp
            with_reducible rfl
          rotate_left
          · simp only [Act.put, List.setIfInBounds_toArray, List.set_cons_zero, List.set_cons_succ, i64_w, i32_w]
            rfl
          refine done_ (by kernel_rfl) ?_
          try go_wp2
          refine bodyPost_ret (results_ct rfl _ _ gb698 63 #[.slice A0_0 l0_0.length c0_0, .slice A0_1 l0_1.length c0_1, .int .u64 a0_2, .slice A0_3 l0_3.length c0_3, .int .u32 a0_4, .int .u32 a0_5] (0, 0) _ rfl (kP_ BK698.out) Try.underlying63 rfl (by kernel_rfl)) rfl ?_
          exact ⟨_, _, _, r3_, (vF_ HO_698000.out), (vF_ HO_698001.out), (vF_ HO_698003.out), beT_⟩
        replace c33 := Bool.eq_false_iff.mpr c33
        subst c33
        replace H := hN_ H
        replace H := Option.bind_eq_some_iff.mp H
        obtain ⟨⟨t703, t706, t709, t710, t713⟩, A410, H⟩ := H
        have A41 := Aside0.mk A410
        clear A410
        by_cases c42 : t713 = 0
        · rw [if_pos c42] at H
          have c42b0 : (t713 == 0) = true := beq_iff_eq.mpr c42
          have c42b1 : (t713 != 0) = false := bne_eq_false_iff_eq.mpr c42
          clear c42
          simp only [Option.some.injEq, Prod.mk.injEq] at H
          obtain ⟨rfl, rfl, rfl, rfl, rfl, rfl, rfl⟩ := H
          have hnb43 := NB701_697.out
          have hnc43 := NB697_701.out
          have hnb44 := NB701_698.out
          have hnc44 := NB698_701.out
          obtain ⟨hcz45_0, hcz45_1, hcz45_2, hcz45_3, hfz45_0, hfz45_1, hfz45_2, hfz45_3⟩ := b4_ BK701.out
          go_wp2_with (first | ((with_reducible refine gate_callee (f := 64) rfl ?_); refine gL_ (some 47) Try.func64 #[.agg #[.slice A0_0 l0_0.length c0_0, .slice A0_1 l0_1.length c0_1, .int .u64 a0_2, .slice A0_3 l0_3.length c0_3], .int .u32 t699, .int .u32 ((t700 - t699) % 4294967296), .int .i64 3] ?_; (with_reducible refine (guest_Map.calls (fun k_ => (((P0_0_ k_ ∨ P0_1_ k_ ∨ P0_3_ k_) ∨ w.heap.size ≤ k_) ∧ (k_ ≠ gb697 ∧ (k_ ≠ gb698 ∧ k_ ≠ gb701)))) _ _ l0_0 (fun k_ => (((P0_0_ k_ ∨ P0_1_ k_ ∨ P0_3_ k_) ∨ w.heap.size ≤ k_) ∧ (k_ ≠ gb697 ∧ (k_ ≠ gb698 ∧ k_ ≠ gb701)))) _ _ l0_1 a0_2 (fun k_ => (((P0_0_ k_ ∨ P0_1_ k_ ∨ P0_3_ k_) ∨ w.heap.size ≤ k_) ∧ (k_ ≠ gb697 ∧ (k_ ≠ gb698 ∧ k_ ≠ gb701)))) _ _ l0_3 t699 ((t700 - t699) % 4294967296) 3 t703 t706 t709 t710 t713 _ ?side1 ?side2 ?side3 A41.out).mono ?_); (case side1 => first | exact HO_702000.out | exact Kd.V_mono HO_702000.out (fun _ hk => by grind)); (case side2 => first | exact HO_702001.out | exact Kd.V_mono HO_702001.out (fun _ hk => by grind)); (case side3 => first | exact HO_702003.out | exact Kd.V_mono HO_702003.out (fun _ hk => by grind)); rintro e w46 ⟨v704, v707, v711, rfl, ho0, ho1, ho2, hb⟩; refine ⟨_, rfl, ?_⟩; have HO705 := Aside0.mk (Kd.V_lower (Kd.V_mono (ok' := fun k_ => ((P0_0_ k_ ∨ P0_1_ k_ ∨ P0_3_ k_) ∨ w.heap.size ≤ k_) ∧ k_ ≠ gb697 ∧ k_ ≠ gb698 ∧ k_ ≠ gb701) ho0 (fun k_ hk_ => ⟨Or.elim hk_ (fun hs_ => Or.elim hs_ (fun hs_ => hs_.1) (fun hs_ => Or.elim hs_ (fun hs_ => hs_.1) (fun hs_ => hs_.1))) (fun hn_ => (.inr (Nat.le_trans (below_size beT_) hn_))), Or.elim hk_ (fun hs_ => Or.elim hs_ (fun hs_ => hs_.2.1) (fun hs_ => Or.elim hs_ (fun hs_ => hs_.2.1) (fun hs_ => hs_.2.1))) (fun hn_ => (Kd.freshB (g := gb697) (o := .cells #[.slice A0_0 l0_0.length c0_0, .slice A0_1 l0_1.length c0_1, .int .u64 a0_2, .slice A0_3 l0_3.length c0_3, .int .u32 a0_4, .int .u32 a0_5] 63 (0, 0)) (bT_ BK697.out) k_ hn_)), Or.elim hk_ (fun hs_ => Or.elim hs_ (fun hs_ => hs_.2.2.1) (fun hs_ => Or.elim hs_ (fun hs_ => hs_.2.2.1) (fun hs_ => hs_.2.2.1))) (fun hn_ => (Kd.freshB (g := gb698) (o := .cells #[.slice none 0 0, .slice none 0 0, .int .u64 0, .slice none 0 0, .int .u32 0, .int .u32 0] 63 (0, 0)) (bT_ BK698.out) k_ hn_)), Or.elim hk_ (fun hs_ => Or.elim hs_ (fun hs_ => hs_.2.2.2) (fun hs_ => Or.elim hs_ (fun hs_ => hs_.2.2.2) (fun hs_ => hs_.2.2.2))) (fun hn_ => (Kd.freshB (g := gb701) (o := .cells #[.slice A0_0 l0_0.length c0_0, .slice A0_1 l0_1.length c0_1, .int .u64 a0_2, .slice A0_3 l0_3.length c0_3] 29 (0, 0)) (bT_ BK701.out) k_ hn_))⟩)) (below_size beT_)); have HO708 := Aside0.mk (Kd.V_lower (Kd.V_mono (ok' := fun k_ => ((P0_0_ k_ ∨ P0_1_ k_ ∨ P0_3_ k_) ∨ w.heap.size ≤ k_) ∧ k_ ≠ gb697 ∧ k_ ≠ gb698 ∧ k_ ≠ gb701) ho1 (fun k_ hk_ => ⟨Or.elim hk_ (fun hs_ => Or.elim hs_ (fun hs_ => hs_.1) (fun hs_ => Or.elim hs_ (fun hs_ => hs_.1) (fun hs_ => hs_.1))) (fun hn_ => (.inr (Nat.le_trans (below_size beT_) hn_))), Or.elim hk_ (fun hs_ => Or.elim hs_ (fun hs_ => hs_.2.1) (fun hs_ => Or.elim hs_ (fun hs_ => hs_.2.1) (fun hs_ => hs_.2.1))) (fun hn_ => (Kd.freshB (g := gb697) (o := .cells #[.slice A0_0 l0_0.length c0_0, .slice A0_1 l0_1.length c0_1, .int .u64 a0_2, .slice A0_3 l0_3.length c0_3, .int .u32 a0_4, .int .u32 a0_5] 63 (0, 0)) (bT_ BK697.out) k_ hn_)), Or.elim hk_ (fun hs_ => Or.elim hs_ (fun hs_ => hs_.2.2.1) (fun hs_ => Or.elim hs_ (fun hs_ => hs_.2.2.1) (fun hs_ => hs_.2.2.1))) (fun hn_ => (Kd.freshB (g := gb698) (o := .cells #[.slice none 0 0, .slice none 0 0, .int .u64 0, .slice none 0 0, .int .u32 0, .int .u32 0] 63 (0, 0)) (bT_ BK698.out) k_ hn_)), Or.elim hk_ (fun hs_ => Or.elim hs_ (fun hs_ => hs_.2.2.2) (fun hs_ => Or.elim hs_ (fun hs_ => hs_.2.2.2) (fun hs_ => hs_.2.2.2))) (fun hn_ => (Kd.freshB (g := gb701) (o := .cells #[.slice A0_0 l0_0.length c0_0, .slice A0_1 l0_1.length c0_1, .int .u64 a0_2, .slice A0_3 l0_3.length c0_3] 29 (0, 0)) (bT_ BK701.out) k_ hn_))⟩)) (below_size beT_)); have HO712 := Aside0.mk (Kd.V_lower (Kd.V_mono (ok' := fun k_ => ((P0_0_ k_ ∨ P0_1_ k_ ∨ P0_3_ k_) ∨ w.heap.size ≤ k_) ∧ k_ ≠ gb697 ∧ k_ ≠ gb698 ∧ k_ ≠ gb701) ho2 (fun k_ hk_ => ⟨Or.elim hk_ (fun hs_ => Or.elim hs_ (fun hs_ => hs_.1) (fun hs_ => Or.elim hs_ (fun hs_ => hs_.1) (fun hs_ => hs_.1))) (fun hn_ => (.inr (Nat.le_trans (below_size beT_) hn_))), Or.elim hk_ (fun hs_ => Or.elim hs_ (fun hs_ => hs_.2.1) (fun hs_ => Or.elim hs_ (fun hs_ => hs_.2.1) (fun hs_ => hs_.2.1))) (fun hn_ => (Kd.freshB (g := gb697) (o := .cells #[.slice A0_0 l0_0.length c0_0, .slice A0_1 l0_1.length c0_1, .int .u64 a0_2, .slice A0_3 l0_3.length c0_3, .int .u32 a0_4, .int .u32 a0_5] 63 (0, 0)) (bT_ BK697.out) k_ hn_)), Or.elim hk_ (fun hs_ => Or.elim hs_ (fun hs_ => hs_.2.2.1) (fun hs_ => Or.elim hs_ (fun hs_ => hs_.2.2.1) (fun hs_ => hs_.2.2.1))) (fun hn_ => (Kd.freshB (g := gb698) (o := .cells #[.slice none 0 0, .slice none 0 0, .int .u64 0, .slice none 0 0, .int .u32 0, .int .u32 0] 63 (0, 0)) (bT_ BK698.out) k_ hn_)), Or.elim hk_ (fun hs_ => Or.elim hs_ (fun hs_ => hs_.2.2.2) (fun hs_ => Or.elim hs_ (fun hs_ => hs_.2.2.2) (fun hs_ => hs_.2.2.2))) (fun hn_ => (Kd.freshB (g := gb701) (o := .cells #[.slice A0_0 l0_0.length c0_0, .slice A0_1 l0_1.length c0_1, .int .u64 a0_2, .slice A0_3 l0_3.length c0_3] 29 (0, 0)) (bT_ BK701.out) k_ hn_))⟩)) (below_size beT_)); replace HO_698000 := vB_ HO_698000.out hb; replace HO_698001 := vB_ HO_698001.out hb; replace HO_698003 := vB_ HO_698003.out hb; replace HO_702000 := vB_ HO_702000.out hb; replace HO_702001 := vB_ HO_702001.out hb; replace HO_702003 := vB_ HO_702003.out hb; replace BK697 := kB_ BK697 hb; replace BK698 := kB_ BK698 hb; replace BK701 := kB_ BK701 hb; replace HB := hB_ hb; (try clear hb); (try clear hb2); (try clear hk); (try clear hi); (try clear ho0); (try clear ho1); (try clear ho2); obtain ⟨Ao47, co47, eo47⟩ := Kd.V_slice HO705.out; subst eo47; obtain ⟨hcz48_0, hcz48_1, hcz48_2, hcz48_3, hfz48_0, hfz48_1, hfz48_2, hfz48_3⟩ := b4_ BK701.out; obtain ⟨Ao49, co49, eo49⟩ := Kd.V_slice HO708.out; subst eo49; obtain ⟨Ao50, co50, eo50⟩ := Kd.V_slice HO712.out; subst eo50; have hnb51 := NB697_698.out; have hnc51 := NB698_697.out; obtain ⟨hcz52_0, hcz52_1, hcz52_2, hcz52_3, hcz52_4, hcz52_5, hfz52_0, hfz52_1, hfz52_2, hfz52_3, hfz52_4, hfz52_5⟩ := b6_ BK697.out; obtain ⟨hcz53_0, hcz53_1, hcz53_2, hcz53_3, hcz53_4, hcz53_5, hfz53_0, hfz53_1, hfz53_2, hfz53_3, hfz53_4, hfz53_5⟩ := b6_ BK698.out))
          refine bodyPost_ret (results_ct rfl _ _ gb698 63 #[.slice Ao47 t703.length co47, .slice Ao49 t706.length co49, .int .u64 t709, .slice Ao50 t710.length co50, .int .u32 a0_4, .int .u32 a1] (0, 0) _ rfl (kP_ BK698.out) Try.underlying63 rfl (by kernel_rfl)) rfl ?_
          exact ⟨_, _, _, r3_, (vF_ HO705.out), (vF_ HO708.out), (vF_ HO712.out), beT_⟩
        rw [if_neg c42] at H
        have c42b0 : (t713 == 0) = false := beq_eq_false_iff_ne.mpr c42
        have c42b1 : (t713 != 0) = true := bne_iff_ne.mpr c42
        simp only [Option.some.injEq, Prod.mk.injEq] at H
        obtain ⟨rfl, rfl, rfl, rfl, rfl, rfl, rfl⟩ := H
        have hnb54 := NB701_697.out
        have hnc54 := NB697_701.out
        have hnb55 := NB701_698.out
        have hnc55 := NB698_701.out
        obtain ⟨hcz56_0, hcz56_1, hcz56_2, hcz56_3, hfz56_0, hfz56_1, hfz56_2, hfz56_3⟩ := b4_ BK701.out
        try go_wp2_with (first | ((with_reducible refine gate_callee (f := 64) rfl ?_); refine gL_ (some 47) Try.func64 #[.agg #[.slice A0_0 l0_0.length c0_0, .slice A0_1 l0_1.length c0_1, .int .u64 a0_2, .slice A0_3 l0_3.length c0_3], .int .u32 t699, .int .u32 ((t700 - t699) % 4294967296), .int .i64 3] ?_; (with_reducible refine (guest_Map.calls (fun k_ => (((P0_0_ k_ ∨ P0_1_ k_ ∨ P0_3_ k_) ∨ w.heap.size ≤ k_) ∧ (k_ ≠ gb697 ∧ (k_ ≠ gb698 ∧ k_ ≠ gb701)))) _ _ l0_0 (fun k_ => (((P0_0_ k_ ∨ P0_1_ k_ ∨ P0_3_ k_) ∨ w.heap.size ≤ k_) ∧ (k_ ≠ gb697 ∧ (k_ ≠ gb698 ∧ k_ ≠ gb701)))) _ _ l0_1 a0_2 (fun k_ => (((P0_0_ k_ ∨ P0_1_ k_ ∨ P0_3_ k_) ∨ w.heap.size ≤ k_) ∧ (k_ ≠ gb697 ∧ (k_ ≠ gb698 ∧ k_ ≠ gb701)))) _ _ l0_3 t699 ((t700 - t699) % 4294967296) 3 t703 t706 t709 t710 t713 _ ?side1 ?side2 ?side3 A41.out).mono ?_); (case side1 => first | exact HO_702000.out | exact Kd.V_mono HO_702000.out (fun _ hk => by grind)); (case side2 => first | exact HO_702001.out | exact Kd.V_mono HO_702001.out (fun _ hk => by grind)); (case side3 => first | exact HO_702003.out | exact Kd.V_mono HO_702003.out (fun _ hk => by grind)); rintro e w57 ⟨v704, v707, v711, rfl, ho0, ho1, ho2, hb⟩; refine ⟨_, rfl, ?_⟩; have HO705 := Aside0.mk (Kd.V_lower (Kd.V_mono (ok' := fun k_ => ((P0_0_ k_ ∨ P0_1_ k_ ∨ P0_3_ k_) ∨ w.heap.size ≤ k_) ∧ k_ ≠ gb697 ∧ k_ ≠ gb698 ∧ k_ ≠ gb701) ho0 (fun k_ hk_ => ⟨Or.elim hk_ (fun hs_ => Or.elim hs_ (fun hs_ => hs_.1) (fun hs_ => Or.elim hs_ (fun hs_ => hs_.1) (fun hs_ => hs_.1))) (fun hn_ => (.inr (Nat.le_trans (below_size beT_) hn_))), Or.elim hk_ (fun hs_ => Or.elim hs_ (fun hs_ => hs_.2.1) (fun hs_ => Or.elim hs_ (fun hs_ => hs_.2.1) (fun hs_ => hs_.2.1))) (fun hn_ => (Kd.freshB (g := gb697) (o := .cells #[.slice A0_0 l0_0.length c0_0, .slice A0_1 l0_1.length c0_1, .int .u64 a0_2, .slice A0_3 l0_3.length c0_3, .int .u32 a0_4, .int .u32 a0_5] 63 (0, 0)) (bT_ BK697.out) k_ hn_)), Or.elim hk_ (fun hs_ => Or.elim hs_ (fun hs_ => hs_.2.2.1) (fun hs_ => Or.elim hs_ (fun hs_ => hs_.2.2.1) (fun hs_ => hs_.2.2.1))) (fun hn_ => (Kd.freshB (g := gb698) (o := .cells #[.slice none 0 0, .slice none 0 0, .int .u64 0, .slice none 0 0, .int .u32 0, .int .u32 0] 63 (0, 0)) (bT_ BK698.out) k_ hn_)), Or.elim hk_ (fun hs_ => Or.elim hs_ (fun hs_ => hs_.2.2.2) (fun hs_ => Or.elim hs_ (fun hs_ => hs_.2.2.2) (fun hs_ => hs_.2.2.2))) (fun hn_ => (Kd.freshB (g := gb701) (o := .cells #[.slice A0_0 l0_0.length c0_0, .slice A0_1 l0_1.length c0_1, .int .u64 a0_2, .slice A0_3 l0_3.length c0_3] 29 (0, 0)) (bT_ BK701.out) k_ hn_))⟩)) (below_size beT_)); have HO708 := Aside0.mk (Kd.V_lower (Kd.V_mono (ok' := fun k_ => ((P0_0_ k_ ∨ P0_1_ k_ ∨ P0_3_ k_) ∨ w.heap.size ≤ k_) ∧ k_ ≠ gb697 ∧ k_ ≠ gb698 ∧ k_ ≠ gb701) ho1 (fun k_ hk_ => ⟨Or.elim hk_ (fun hs_ => Or.elim hs_ (fun hs_ => hs_.1) (fun hs_ => Or.elim hs_ (fun hs_ => hs_.1) (fun hs_ => hs_.1))) (fun hn_ => (.inr (Nat.le_trans (below_size beT_) hn_))), Or.elim hk_ (fun hs_ => Or.elim hs_ (fun hs_ => hs_.2.1) (fun hs_ => Or.elim hs_ (fun hs_ => hs_.2.1) (fun hs_ => hs_.2.1))) (fun hn_ => (Kd.freshB (g := gb697) (o := .cells #[.slice A0_0 l0_0.length c0_0, .slice A0_1 l0_1.length c0_1, .int .u64 a0_2, .slice A0_3 l0_3.length c0_3, .int .u32 a0_4, .int .u32 a0_5] 63 (0, 0)) (bT_ BK697.out) k_ hn_)), Or.elim hk_ (fun hs_ => Or.elim hs_ (fun hs_ => hs_.2.2.1) (fun hs_ => Or.elim hs_ (fun hs_ => hs_.2.2.1) (fun hs_ => hs_.2.2.1))) (fun hn_ => (Kd.freshB (g := gb698) (o := .cells #[.slice none 0 0, .slice none 0 0, .int .u64 0, .slice none 0 0, .int .u32 0, .int .u32 0] 63 (0, 0)) (bT_ BK698.out) k_ hn_)), Or.elim hk_ (fun hs_ => Or.elim hs_ (fun hs_ => hs_.2.2.2) (fun hs_ => Or.elim hs_ (fun hs_ => hs_.2.2.2) (fun hs_ => hs_.2.2.2))) (fun hn_ => (Kd.freshB (g := gb701) (o := .cells #[.slice A0_0 l0_0.length c0_0, .slice A0_1 l0_1.length c0_1, .int .u64 a0_2, .slice A0_3 l0_3.length c0_3] 29 (0, 0)) (bT_ BK701.out) k_ hn_))⟩)) (below_size beT_)); have HO712 := Aside0.mk (Kd.V_lower (Kd.V_mono (ok' := fun k_ => ((P0_0_ k_ ∨ P0_1_ k_ ∨ P0_3_ k_) ∨ w.heap.size ≤ k_) ∧ k_ ≠ gb697 ∧ k_ ≠ gb698 ∧ k_ ≠ gb701) ho2 (fun k_ hk_ => ⟨Or.elim hk_ (fun hs_ => Or.elim hs_ (fun hs_ => hs_.1) (fun hs_ => Or.elim hs_ (fun hs_ => hs_.1) (fun hs_ => hs_.1))) (fun hn_ => (.inr (Nat.le_trans (below_size beT_) hn_))), Or.elim hk_ (fun hs_ => Or.elim hs_ (fun hs_ => hs_.2.1) (fun hs_ => Or.elim hs_ (fun hs_ => hs_.2.1) (fun hs_ => hs_.2.1))) (fun hn_ => (Kd.freshB (g := gb697) (o := .cells #[.slice A0_0 l0_0.length c0_0, .slice A0_1 l0_1.length c0_1, .int .u64 a0_2, .slice A0_3 l0_3.length c0_3, .int .u32 a0_4, .int .u32 a0_5] 63 (0, 0)) (bT_ BK697.out) k_ hn_)), Or.elim hk_ (fun hs_ => Or.elim hs_ (fun hs_ => hs_.2.2.1) (fun hs_ => Or.elim hs_ (fun hs_ => hs_.2.2.1) (fun hs_ => hs_.2.2.1))) (fun hn_ => (Kd.freshB (g := gb698) (o := .cells #[.slice none 0 0, .slice none 0 0, .int .u64 0, .slice none 0 0, .int .u32 0, .int .u32 0] 63 (0, 0)) (bT_ BK698.out) k_ hn_)), Or.elim hk_ (fun hs_ => Or.elim hs_ (fun hs_ => hs_.2.2.2) (fun hs_ => Or.elim hs_ (fun hs_ => hs_.2.2.2) (fun hs_ => hs_.2.2.2))) (fun hn_ => (Kd.freshB (g := gb701) (o := .cells #[.slice A0_0 l0_0.length c0_0, .slice A0_1 l0_1.length c0_1, .int .u64 a0_2, .slice A0_3 l0_3.length c0_3] 29 (0, 0)) (bT_ BK701.out) k_ hn_))⟩)) (below_size beT_)); replace HO_698000 := vB_ HO_698000.out hb; replace HO_698001 := vB_ HO_698001.out hb; replace HO_698003 := vB_ HO_698003.out hb; replace HO_702000 := vB_ HO_702000.out hb; replace HO_702001 := vB_ HO_702001.out hb; replace HO_702003 := vB_ HO_702003.out hb; replace BK697 := kB_ BK697 hb; replace BK698 := kB_ BK698 hb; replace BK701 := kB_ BK701 hb; replace HB := hB_ hb; (try clear hb); (try clear hb2); (try clear hk); (try clear hi); (try clear ho0); (try clear ho1); (try clear ho2); obtain ⟨Ao58, co58, eo58⟩ := Kd.V_slice HO705.out; subst eo58; obtain ⟨hcz59_0, hcz59_1, hcz59_2, hcz59_3, hfz59_0, hfz59_1, hfz59_2, hfz59_3⟩ := b4_ BK701.out; obtain ⟨Ao60, co60, eo60⟩ := Kd.V_slice HO708.out; subst eo60; obtain ⟨Ao61, co61, eo61⟩ := Kd.V_slice HO712.out; subst eo61))
        have n0_ : Aside0 (Kd.V k83 83 ((((w57.setCell ⟨gb701, 0, none⟩ (.slice Ao58 t703.length co58)).setCell ⟨gb701, 1, none⟩ (.slice Ao60 t706.length co60)).setCell ⟨gb701, 2, none⟩ (.int .u64 t709)).setCell ⟨gb701, 3, none⟩ (.slice Ao61 t710.length co61)) w.heap.size (fun k_ => ((P0_0_ k_ ∨ P0_1_ k_ ∨ P0_3_ k_) ∨ w.heap.size ≤ k_) ∧ k_ ≠ gb697 ∧ k_ ≠ gb698 ∧ k_ ≠ gb701) (.slice A0_0 l0_0.length c0_0) l0_0) := ⟨vF_ HO_698000.out⟩
        have n1_ : Aside0 (Kd.V k88 88 ((((w57.setCell ⟨gb701, 0, none⟩ (.slice Ao58 t703.length co58)).setCell ⟨gb701, 1, none⟩ (.slice Ao60 t706.length co60)).setCell ⟨gb701, 2, none⟩ (.int .u64 t709)).setCell ⟨gb701, 3, none⟩ (.slice Ao61 t710.length co61)) w.heap.size (fun k_ => ((P0_0_ k_ ∨ P0_1_ k_ ∨ P0_3_ k_) ∨ w.heap.size ≤ k_) ∧ k_ ≠ gb697 ∧ k_ ≠ gb698 ∧ k_ ≠ gb701) (.slice A0_1 l0_1.length c0_1) l0_1) := ⟨vF_ HO_698001.out⟩
        have n2_ : Aside0 (Kd.V k41 41 ((((w57.setCell ⟨gb701, 0, none⟩ (.slice Ao58 t703.length co58)).setCell ⟨gb701, 1, none⟩ (.slice Ao60 t706.length co60)).setCell ⟨gb701, 2, none⟩ (.int .u64 t709)).setCell ⟨gb701, 3, none⟩ (.slice Ao61 t710.length co61)) w.heap.size (fun k_ => ((P0_0_ k_ ∨ P0_1_ k_ ∨ P0_3_ k_) ∨ w.heap.size ≤ k_) ∧ k_ ≠ gb697 ∧ k_ ≠ gb698 ∧ k_ ≠ gb701) (.slice A0_3 l0_3.length c0_3) l0_3) := ⟨vF_ HO_698003.out⟩
        have n3_ : Aside0 (Kd.V k83 83 ((((w57.setCell ⟨gb701, 0, none⟩ (.slice Ao58 t703.length co58)).setCell ⟨gb701, 1, none⟩ (.slice Ao60 t706.length co60)).setCell ⟨gb701, 2, none⟩ (.int .u64 t709)).setCell ⟨gb701, 3, none⟩ (.slice Ao61 t710.length co61)) w.heap.size (fun k_ => ((P0_0_ k_ ∨ P0_1_ k_ ∨ P0_3_ k_) ∨ w.heap.size ≤ k_) ∧ k_ ≠ gb697 ∧ k_ ≠ gb698 ∧ k_ ≠ gb701) (.slice A0_0 l0_0.length c0_0) l0_0) := ⟨vF_ HO_702000.out⟩
        have n4_ : Aside0 (Kd.V k88 88 ((((w57.setCell ⟨gb701, 0, none⟩ (.slice Ao58 t703.length co58)).setCell ⟨gb701, 1, none⟩ (.slice Ao60 t706.length co60)).setCell ⟨gb701, 2, none⟩ (.int .u64 t709)).setCell ⟨gb701, 3, none⟩ (.slice Ao61 t710.length co61)) w.heap.size (fun k_ => ((P0_0_ k_ ∨ P0_1_ k_ ∨ P0_3_ k_) ∨ w.heap.size ≤ k_) ∧ k_ ≠ gb697 ∧ k_ ≠ gb698 ∧ k_ ≠ gb701) (.slice A0_1 l0_1.length c0_1) l0_1) := ⟨vF_ HO_702001.out⟩
        have n5_ : Aside0 (Kd.V k41 41 ((((w57.setCell ⟨gb701, 0, none⟩ (.slice Ao58 t703.length co58)).setCell ⟨gb701, 1, none⟩ (.slice Ao60 t706.length co60)).setCell ⟨gb701, 2, none⟩ (.int .u64 t709)).setCell ⟨gb701, 3, none⟩ (.slice Ao61 t710.length co61)) w.heap.size (fun k_ => ((P0_0_ k_ ∨ P0_1_ k_ ∨ P0_3_ k_) ∨ w.heap.size ≤ k_) ∧ k_ ≠ gb697 ∧ k_ ≠ gb698 ∧ k_ ≠ gb701) (.slice A0_3 l0_3.length c0_3) l0_3) := ⟨vF_ HO_702003.out⟩
        have n6_ : Aside0 (Kd.V k83 83 ((((w57.setCell ⟨gb701, 0, none⟩ (.slice Ao58 t703.length co58)).setCell ⟨gb701, 1, none⟩ (.slice Ao60 t706.length co60)).setCell ⟨gb701, 2, none⟩ (.int .u64 t709)).setCell ⟨gb701, 3, none⟩ (.slice Ao61 t710.length co61)) w.heap.size (fun k_ => ((P0_0_ k_ ∨ P0_1_ k_ ∨ P0_3_ k_) ∨ w.heap.size ≤ k_) ∧ k_ ≠ gb697 ∧ k_ ≠ gb698 ∧ k_ ≠ gb701) (.slice Ao58 t703.length co58) t703) := ⟨vF_ HO705.out⟩
        have n7_ : Aside0 (Kd.V k88 88 ((((w57.setCell ⟨gb701, 0, none⟩ (.slice Ao58 t703.length co58)).setCell ⟨gb701, 1, none⟩ (.slice Ao60 t706.length co60)).setCell ⟨gb701, 2, none⟩ (.int .u64 t709)).setCell ⟨gb701, 3, none⟩ (.slice Ao61 t710.length co61)) w.heap.size (fun k_ => ((P0_0_ k_ ∨ P0_1_ k_ ∨ P0_3_ k_) ∨ w.heap.size ≤ k_) ∧ k_ ≠ gb697 ∧ k_ ≠ gb698 ∧ k_ ≠ gb701) (.slice Ao60 t706.length co60) t706) := ⟨vF_ HO708.out⟩
        have n8_ : Aside0 (Kd.V k41 41 ((((w57.setCell ⟨gb701, 0, none⟩ (.slice Ao58 t703.length co58)).setCell ⟨gb701, 1, none⟩ (.slice Ao60 t706.length co60)).setCell ⟨gb701, 2, none⟩ (.int .u64 t709)).setCell ⟨gb701, 3, none⟩ (.slice Ao61 t710.length co61)) w.heap.size (fun k_ => ((P0_0_ k_ ∨ P0_1_ k_ ∨ P0_3_ k_) ∨ w.heap.size ≤ k_) ∧ k_ ≠ gb697 ∧ k_ ≠ gb698 ∧ k_ ≠ gb701) (.slice Ao61 t710.length co61) t710) := ⟨vF_ HO712.out⟩
        have n9_ : Aside0 (((((w57.setCell ⟨gb701, 0, none⟩ (.slice Ao58 t703.length co58)).setCell ⟨gb701, 1, none⟩ (.slice Ao60 t706.length co60)).setCell ⟨gb701, 2, none⟩ (.int .u64 t709)).setCell ⟨gb701, 3, none⟩ (.slice Ao61 t710.length co61)).heap[gb697]? = some (.cells #[.slice A0_0 l0_0.length c0_0, .slice A0_1 l0_1.length c0_1, .int .u64 a0_2, .slice A0_3 l0_3.length c0_3, .int .u32 a0_4, .int .u32 a0_5] 63 (0, 0))) := ⟨bfT_ BK697.out⟩
        have n10_ : Aside0 (((((w57.setCell ⟨gb701, 0, none⟩ (.slice Ao58 t703.length co58)).setCell ⟨gb701, 1, none⟩ (.slice Ao60 t706.length co60)).setCell ⟨gb701, 2, none⟩ (.int .u64 t709)).setCell ⟨gb701, 3, none⟩ (.slice Ao61 t710.length co61)).heap[gb698]? = some (.cells #[.slice none 0 0, .slice none 0 0, .int .u64 0, .slice none 0 0, .int .u32 0, .int .u32 0] 63 (0, 0))) := ⟨bfT_ BK698.out⟩
        have n11_ : Aside0 (((((w57.setCell ⟨gb701, 0, none⟩ (.slice Ao58 t703.length co58)).setCell ⟨gb701, 1, none⟩ (.slice Ao60 t706.length co60)).setCell ⟨gb701, 2, none⟩ (.int .u64 t709)).setCell ⟨gb701, 3, none⟩ (.slice Ao61 t710.length co61)).heap[gb701]? = some (.cells #[.slice Ao58 t703.length co58, .slice Ao60 t706.length co60, .int .u64 t709, .slice Ao61 t710.length co61] 29 (0, 0))) := ⟨kP_ BK701.out⟩
        have n12_ : Aside0 (Below w.heap.size w ((((w57.setCell ⟨gb701, 0, none⟩ (.slice Ao58 t703.length co58)).setCell ⟨gb701, 1, none⟩ (.slice Ao60 t706.length co60)).setCell ⟨gb701, 2, none⟩ (.int .u64 t709)).setCell ⟨gb701, 3, none⟩ (.slice Ao61 t710.length co61))) := ⟨beT_⟩
        (try clear HO_698000)
        (try clear HO_698001)
        (try clear HO_698003)
        (try clear HO_702000)
        (try clear HO_702001)
        (try clear HO_702003)
        (try clear HO705)
        (try clear HO708)
        (try clear HO712)
        (try clear BK697)
        (try clear BK698)
        (try clear BK701)
        (try clear HB)
        generalize ((((w57.setCell ⟨gb701, 0, none⟩ (.slice Ao58 t703.length co58)).setCell ⟨gb701, 1, none⟩ (.slice Ao60 t706.length co60)).setCell ⟨gb701, 2, none⟩ (.int .u64 t709)).setCell ⟨gb701, 3, none⟩ (.slice Ao61 t710.length co61)) = w62 at n0_ n1_ n2_ n3_ n4_ n5_ n6_ n7_ n8_ n9_ n10_ n11_ n12_ ⊢
        have HO_698000 := n0_
        have HO_698001 := n1_
        have HO_698003 := n2_
        have HO_702000 := n3_
        have HO_702001 := n4_
        have HO_702003 := n5_
        have HO705 := n6_
        have HO708 := n7_
        have HO712 := n8_
        have BK697 := n9_
        have BK698 := n10_
        have BK701 := n11_
        have HB := n12_
        clear n0_ n1_ n2_ n3_ n4_ n5_ n6_ n7_ n8_ n9_ n10_ n11_ n12_
        replace HO_698000 := Aside0.mk (Kd.V_drew HO_698000.out)
        replace HO_698001 := Aside0.mk (Kd.V_drew HO_698001.out)
        replace HO_698003 := Aside0.mk (Kd.V_drew HO_698003.out)
        replace HO_702000 := Aside0.mk (Kd.V_drew HO_702000.out)
        replace HO_702001 := Aside0.mk (Kd.V_drew HO_702001.out)
        replace HO_702003 := Aside0.mk (Kd.V_drew HO_702003.out)
        replace HO705 := Aside0.mk (Kd.V_drew HO705.out)
        replace HO708 := Aside0.mk (Kd.V_drew HO708.out)
        replace HO712 := Aside0.mk (Kd.V_drew HO712.out)
        replace BK697 := Aside0.mk (blk_drew BK697.out)
        replace BK698 := Aside0.mk (blk_drew BK698.out)
        replace BK701 := Aside0.mk (blk_drew BK701.out)
        replace HB := Aside0.mk (below_drew1 HB.out)
        refine start_ (n := 5) (S := fun w' => w'.cell? ⟨gb697, 0, none⟩ = some (.slice A0_0 l0_0.length c0_0) ∧ w'.cell? ⟨gb697, 1, none⟩ = some (.slice A0_1 l0_1.length c0_1) ∧ w'.cell? ⟨gb697, 2, none⟩ = some (.int .u64 a0_2) ∧ w'.cell? ⟨gb697, 3, none⟩ = some (.slice A0_3 l0_3.length c0_3) ∧ w'.cell? ⟨gb697, 4, none⟩ = some (.int .u32 a0_4) ∧ w'.cell? ⟨gb697, 5, none⟩ = some (.int .u32 a0_5)) (ds := []) (mb_ 5 0) (by kernel_rfl) rfl rfl ⟨(blk_cell BK697.out 0).trans rfl, (blk_cell BK697.out 1).trans rfl, (blk_cell BK697.out 2).trans rfl, (blk_cell BK697.out 3).trans rfl, (blk_cell BK697.out 4).trans rfl, (blk_cell BK697.out 5).trans rfl⟩ (fun hHeld => ?_)
        generalize w62.drew = w63 at HO_698000 HO_698001 HO_698003 HO_702000 HO_702001 HO_702003 HO705 HO708 HO712 BK697 BK698 BK701 HB hHeld ⊢
        refine pure_ (i := 1) (N := some 66) (v := ?_) (a' := ?_) (mb_ 5 2) rfl rfl (by kernel_rfl) (fun _ _ _ h => h) (Or.inl ⟨by rfl, ?_⟩) ?_ ?_
        rotate_left
        · intro w'
          go_simp
          with_reducible rfl
        rotate_left
        · simp only [Act.put, List.setIfInBounds_toArray, List.set_cons_zero, List.set_cons_succ, i64_w, i32_w]
          rfl
        refine take_ (i := 0) (N := some 65) (v := ?_) (a' := ?_) (mb_ 5 3) rfl rfl (by kernel_rfl) (fun _ _ _ h => h) (Or.inl ⟨by rfl, ?_⟩) hHeld ?_ ?_
        rotate_left
        · rintro w' ⟨s0, s1, s2, s3, s4, s5⟩
          go_simp
          with_reducible rfl
        rotate_left
        · simp only [Act.put, List.setIfInBounds_toArray, List.set_cons_zero, List.set_cons_succ, i64_w, i32_w]
          rfl
        refine take_ (i := 2) (N := some 67) (v := ?_) (a' := ?_) (mb_ 5 7) rfl rfl (by kernel_rfl) (fun _ _ _ h => h) (Or.inl ⟨by rfl, ?_⟩) hHeld ?_ ?_
        rotate_left
        · rintro w' ⟨s0, s1, s2, s3, s4, s5⟩
          go_simp
          with_reducible rfl
        rotate_left
        · simp only [Act.put, List.setIfInBounds_toArray, List.set_cons_zero, List.set_cons_succ, i64_w, i32_w]
          rfl
        refine one_ (i := 3) (N := none) (mb_ 5 15) rfl rfl (by kernel_rfl) (by decide) (fun K hK => ?_)
        have hs64 : w63.cell? ⟨gb698, 0, none⟩ = some (.slice none 0 0) := (blk_cell BK698.out 0).trans rfl
        have hfs64 := blk_frozen BK698.out 0
        have hns64_0 := NB697_698.out
        have hns64_2 := NB701_698.out
        have hms64_0 := NB698_697.out
        have hms64_2 := NB698_701.out
        have hs65 : w63.cell? ⟨gb698, 1, none⟩ = some (.slice none 0 0) := (blk_cell BK698.out 1).trans rfl
        have hfs65 := blk_frozen BK698.out 1
        have hns65_0 := NB697_698.out
        have hns65_2 := NB701_698.out
        have hms65_0 := NB698_697.out
        have hms65_2 := NB698_701.out
        have hs66 : w63.cell? ⟨gb698, 2, none⟩ = some (.int .u64 0) := (blk_cell BK698.out 2).trans rfl
        have hfs66 := blk_frozen BK698.out 2
        have hns66_0 := NB697_698.out
        have hns66_2 := NB701_698.out
        have hms66_0 := NB698_697.out
        have hms66_2 := NB698_701.out
        have hs67 : w63.cell? ⟨gb698, 3, none⟩ = some (.slice none 0 0) := (blk_cell BK698.out 3).trans rfl
        have hfs67 := blk_frozen BK698.out 3
        have hns67_0 := NB697_698.out
        have hns67_2 := NB701_698.out
        have hms67_0 := NB698_697.out
        have hms67_2 := NB698_701.out
        have hs68 : w63.cell? ⟨gb698, 4, none⟩ = some (.int .u32 0) := (blk_cell BK698.out 4).trans rfl
        have hfs68 := blk_frozen BK698.out 4
        have hns68_0 := NB697_698.out
        have hns68_2 := NB701_698.out
        have hms68_0 := NB698_697.out
        have hms68_2 := NB698_701.out
        have hs69 : w63.cell? ⟨gb698, 5, none⟩ = some (.int .u32 0) := (blk_cell BK698.out 5).trans rfl
        have hfs69 := blk_frozen BK698.out 5
        have hns69_0 := NB697_698.out
        have hns69_2 := NB701_698.out
        have hms69_0 := NB698_697.out
        have hms69_2 := NB698_701.out
        refine skip_ (w1 := ?_) (by rfl) rfl ?_ ?_
        rotate_left
        · go_simp
          rfl
        refine hK.out _ _ ⟨((cell_far (p := ⟨gb698, _, none⟩) NB697_698.out _).trans (((cell_far (p := ⟨gb698, _, none⟩) NB697_698.out _).trans (((cell_far (p := ⟨gb698, _, none⟩) NB697_698.out _).trans (((cell_far (p := ⟨gb698, _, none⟩) NB697_698.out _).trans (((cell_far (p := ⟨gb698, _, none⟩) NB697_698.out _).trans (((cell_far (p := ⟨gb698, _, none⟩) NB697_698.out _).trans (hHeld.1)))))))))))), ((cell_far (p := ⟨gb698, _, none⟩) NB697_698.out _).trans (((cell_far (p := ⟨gb698, _, none⟩) NB697_698.out _).trans (((cell_far (p := ⟨gb698, _, none⟩) NB697_698.out _).trans (((cell_far (p := ⟨gb698, _, none⟩) NB697_698.out _).trans (((cell_far (p := ⟨gb698, _, none⟩) NB697_698.out _).trans (((cell_far (p := ⟨gb698, _, none⟩) NB697_698.out _).trans (hHeld.2.1)))))))))))), ((cell_far (p := ⟨gb698, _, none⟩) NB697_698.out _).trans (((cell_far (p := ⟨gb698, _, none⟩) NB697_698.out _).trans (((cell_far (p := ⟨gb698, _, none⟩) NB697_698.out _).trans (((cell_far (p := ⟨gb698, _, none⟩) NB697_698.out _).trans (((cell_far (p := ⟨gb698, _, none⟩) NB697_698.out _).trans (((cell_far (p := ⟨gb698, _, none⟩) NB697_698.out _).trans (hHeld.2.2.1)))))))))))), ((cell_far (p := ⟨gb698, _, none⟩) NB697_698.out _).trans (((cell_far (p := ⟨gb698, _, none⟩) NB697_698.out _).trans (((cell_far (p := ⟨gb698, _, none⟩) NB697_698.out _).trans (((cell_far (p := ⟨gb698, _, none⟩) NB697_698.out _).trans (((cell_far (p := ⟨gb698, _, none⟩) NB697_698.out _).trans (((cell_far (p := ⟨gb698, _, none⟩) NB697_698.out _).trans (hHeld.2.2.2.1)))))))))))), ((cell_far (p := ⟨gb698, _, none⟩) NB697_698.out _).trans (((cell_far (p := ⟨gb698, _, none⟩) NB697_698.out _).trans (((cell_far (p := ⟨gb698, _, none⟩) NB697_698.out _).trans (((cell_far (p := ⟨gb698, _, none⟩) NB697_698.out _).trans (((cell_far (p := ⟨gb698, _, none⟩) NB697_698.out _).trans (((cell_far (p := ⟨gb698, _, none⟩) NB697_698.out _).trans (hHeld.2.2.2.2.1)))))))))))), ((cell_far (p := ⟨gb698, _, none⟩) NB697_698.out _).trans (((cell_far (p := ⟨gb698, _, none⟩) NB697_698.out _).trans (((cell_far (p := ⟨gb698, _, none⟩) NB697_698.out _).trans (((cell_far (p := ⟨gb698, _, none⟩) NB697_698.out _).trans (((cell_far (p := ⟨gb698, _, none⟩) NB697_698.out _).trans (((cell_far (p := ⟨gb698, _, none⟩) NB697_698.out _).trans (hHeld.2.2.2.2.2))))))))))))⟩ (fun hHeld => ?_)
        clear hK K
        refine pure_ (i := 4) (N := some 5) (v := ?_) (a' := ?_) (mb_ 5 31) rfl rfl (by kernel_rfl) (fun _ _ _ h => h) (Or.inl ⟨by rfl, ?_⟩) ?_ ?_
        rotate_left
        · intro w'
          go_simp
          with_reducible rfl
        rotate_left
        · simp only [Act.put, List.setIfInBounds_toArray, List.set_cons_zero, List.set_cons_succ, i64_w, i32_w]
          rfl
        refine done_ (by kernel_rfl) ?_
        try go_wp2
        refine bodyPost_ret (results_ct rfl _ _ gb698 63 #[.slice A0_0 l0_0.length c0_0, .slice A0_1 l0_1.length c0_1, .int .u64 a0_2, .slice A0_3 l0_3.length c0_3, .int .u32 a0_4, .int .u32 a0_5] (0, 0) _ rfl (kP_ BK698.out) Try.underlying63 rfl (by kernel_rfl)) rfl ?_
        exact ⟨_, _, _, r3_, (vF_ HO_698000.out), (vF_ HO_698001.out), (vF_ HO_698003.out), beT_⟩
  rw [if_neg c17] at H
  have c17b0 : decide (t699 < t700) = false := decide_eq_false c17
  clear c17
  by_cases c70 : t700 < t699
  · rw [if_pos c70] at H
    have c70b0 : decide (t700 < t699) = true := decide_eq_true c70
    clear c70
    replace H := Option.bind_eq_some_iff.mp H
    obtain ⟨⟨t714, t717, t720, t721, t724⟩, A710, H⟩ := H
    have A71 := Aside0.mk A710
    clear A710
    by_cases c72 : t724 = 0
    · rw [if_pos c72] at H
      have c72b0 : (t724 == 0) = true := beq_iff_eq.mpr c72
      have c72b1 : (t724 != 0) = false := bne_eq_false_iff_eq.mpr c72
      clear c72
      simp only [Option.some.injEq, Prod.mk.injEq] at H
      obtain ⟨rfl, rfl, rfl, rfl, rfl, rfl, rfl⟩ := H
      go_enter Try.func34, Try.ntmps34
      go_wp2_with (first | ((with_reducible refine gate_dst (N := 2) rfl ?_); refine bE_ 2 #[.slice A0_0 l0_0.length c0_0, .slice A0_1 l0_1.length c0_1, .int .u64 a0_2, .slice A0_3 l0_3.length c0_3, .int .u32 a0_4, .int .u32 a0_5] 63 ?_; intro gb697 hg w73 hbox hb; have BK697 := Aside0.mk hbox; have GW697 := geT_ w.heap.size hg; have GE697 := geT_ w.heap.size hg; replace HO0_0 := vE_ HO0_0.out hg hb; replace HO0_1 := vE_ HO0_1.out hg hb; replace HO0_3 := vE_ HO0_3.out hg hb; replace HB := hB_ hb; clear hb hbox hg) | ((with_reducible refine gate_dst (N := 4) rfl ?_); refine bE_ 4 #[.slice none 0 0, .slice none 0 0, .int .u64 0, .slice none 0 0, .int .u32 0, .int .u32 0] 63 ?_; intro gb698 hg w74 hbox hb; have BK698 := Aside0.mk hbox; have GW698 := geT_ w.heap.size hg; have GE698 := geT_ w.heap.size hg; have NB697_698 := nlT_ BK697.out hg; have NB698_697 := ngT_ BK697.out hg; replace HO0_0 := vE_ HO0_0.out hg hb; replace HO0_1 := vE_ HO0_1.out hg hb; replace HO0_3 := vE_ HO0_3.out hg hb; replace BK697 := kB_ BK697 hb; replace HB := hB_ hb; clear hb hbox hg; have hnb75 := NB697_698.out; have hnc75 := NB698_697.out; obtain ⟨hcz76_0, hcz76_1, hcz76_2, hcz76_3, hcz76_4, hcz76_5, hfz76_0, hfz76_1, hfz76_2, hfz76_3, hfz76_4, hfz76_5⟩ := b6_ BK697.out) | ((with_reducible refine gate_callee (f := 62) rfl ?_); refine gL_ (some 12) Try.func62 #[.int .u32 a0_5] ?_; (with_reducible refine (gmap_count.calls a0_5 t699 _ A3.out).mono ?_); rintro e w' ⟨rfl, ⟨nd, rfl⟩⟩; refine ⟨_, rfl, ?_⟩; (try (rw [drewN_self w74]; generalize hq_ : World.drewN w74 _ = w74; replace HO0_0 : Aside0 (Kd.V k83 83 w74 w.heap.size (fun k_ => ((P0_0_ k_ ∨ P0_1_ k_ ∨ P0_3_ k_) ∨ w.heap.size ≤ k_) ∧ k_ ≠ gb697 ∧ k_ ≠ gb698) (.slice A0_0 l0_0.length c0_0) l0_0) := ⟨by rw [← hq_]; exact (vM_ HO0_0.out)⟩; replace HO0_1 : Aside0 (Kd.V k88 88 w74 w.heap.size (fun k_ => ((P0_0_ k_ ∨ P0_1_ k_ ∨ P0_3_ k_) ∨ w.heap.size ≤ k_) ∧ k_ ≠ gb697 ∧ k_ ≠ gb698) (.slice A0_1 l0_1.length c0_1) l0_1) := ⟨by rw [← hq_]; exact (vM_ HO0_1.out)⟩; replace HO0_3 : Aside0 (Kd.V k41 41 w74 w.heap.size (fun k_ => ((P0_0_ k_ ∨ P0_1_ k_ ∨ P0_3_ k_) ∨ w.heap.size ≤ k_) ∧ k_ ≠ gb697 ∧ k_ ≠ gb698) (.slice A0_3 l0_3.length c0_3) l0_3) := ⟨by rw [← hq_]; exact (vM_ HO0_3.out)⟩; replace BK697 : Aside0 (w74.heap[gb697]? = some (.cells #[.slice A0_0 l0_0.length c0_0, .slice A0_1 l0_1.length c0_1, .int .u64 a0_2, .slice A0_3 l0_3.length c0_3, .int .u32 a0_4, .int .u32 a0_5] 63 (0, 0))) := ⟨by rw [← hq_]; exact (bT_ BK697.out)⟩; replace BK698 : Aside0 (w74.heap[gb698]? = some (.cells #[.slice none 0 0, .slice none 0 0, .int .u64 0, .slice none 0 0, .int .u32 0, .int .u32 0] 63 (0, 0))) := ⟨by rw [← hq_]; exact (bT_ BK698.out)⟩; replace HB : Aside0 (Below w.heap.size w w74) := ⟨by rw [← hq_]; exact beT_⟩; clear hq_; have hcy697_0 : w74.cell? ⟨gb697, 0, none⟩ = some (.slice A0_0 l0_0.length c0_0) := (blk_cell BK697.out 0).trans rfl; have hcy697_1 : w74.cell? ⟨gb697, 1, none⟩ = some (.slice A0_1 l0_1.length c0_1) := (blk_cell BK697.out 1).trans rfl; have hcy697_2 : w74.cell? ⟨gb697, 2, none⟩ = some (.int .u64 a0_2) := (blk_cell BK697.out 2).trans rfl; have hcy697_3 : w74.cell? ⟨gb697, 3, none⟩ = some (.slice A0_3 l0_3.length c0_3) := (blk_cell BK697.out 3).trans rfl; have hcy697_4 : w74.cell? ⟨gb697, 4, none⟩ = some (.int .u32 a0_4) := (blk_cell BK697.out 4).trans rfl; have hcy697_5 : w74.cell? ⟨gb697, 5, none⟩ = some (.int .u32 a0_5) := (blk_cell BK697.out 5).trans rfl; have hcy698_0 : w74.cell? ⟨gb698, 0, none⟩ = some (.slice none 0 0) := (blk_cell BK698.out 0).trans rfl; have hcy698_1 : w74.cell? ⟨gb698, 1, none⟩ = some (.slice none 0 0) := (blk_cell BK698.out 1).trans rfl; have hcy698_2 : w74.cell? ⟨gb698, 2, none⟩ = some (.int .u64 0) := (blk_cell BK698.out 2).trans rfl; have hcy698_3 : w74.cell? ⟨gb698, 3, none⟩ = some (.slice none 0 0) := (blk_cell BK698.out 3).trans rfl; have hcy698_4 : w74.cell? ⟨gb698, 4, none⟩ = some (.int .u32 0) := (blk_cell BK698.out 4).trans rfl; have hcy698_5 : w74.cell? ⟨gb698, 5, none⟩ = some (.int .u32 0) := (blk_cell BK698.out 5).trans rfl))) | ((with_reducible refine gate_callee (f := 62) rfl ?_); refine gL_ (some 14) Try.func62 #[.int .u32 a1] ?_; (with_reducible refine (gmap_count.calls a1 t700 _ A4.out).mono ?_); rintro e w' ⟨rfl, ⟨nd, rfl⟩⟩; refine ⟨_, rfl, ?_⟩; (try (rw [drewN_self w74]; generalize hq_ : World.drewN w74 _ = w74; replace HO0_0 : Aside0 (Kd.V k83 83 w74 w.heap.size (fun k_ => ((P0_0_ k_ ∨ P0_1_ k_ ∨ P0_3_ k_) ∨ w.heap.size ≤ k_) ∧ k_ ≠ gb697 ∧ k_ ≠ gb698) (.slice A0_0 l0_0.length c0_0) l0_0) := ⟨by rw [← hq_]; exact (vM_ HO0_0.out)⟩; replace HO0_1 : Aside0 (Kd.V k88 88 w74 w.heap.size (fun k_ => ((P0_0_ k_ ∨ P0_1_ k_ ∨ P0_3_ k_) ∨ w.heap.size ≤ k_) ∧ k_ ≠ gb697 ∧ k_ ≠ gb698) (.slice A0_1 l0_1.length c0_1) l0_1) := ⟨by rw [← hq_]; exact (vM_ HO0_1.out)⟩; replace HO0_3 : Aside0 (Kd.V k41 41 w74 w.heap.size (fun k_ => ((P0_0_ k_ ∨ P0_1_ k_ ∨ P0_3_ k_) ∨ w.heap.size ≤ k_) ∧ k_ ≠ gb697 ∧ k_ ≠ gb698) (.slice A0_3 l0_3.length c0_3) l0_3) := ⟨by rw [← hq_]; exact (vM_ HO0_3.out)⟩; replace BK697 : Aside0 (w74.heap[gb697]? = some (.cells #[.slice A0_0 l0_0.length c0_0, .slice A0_1 l0_1.length c0_1, .int .u64 a0_2, .slice A0_3 l0_3.length c0_3, .int .u32 a0_4, .int .u32 a0_5] 63 (0, 0))) := ⟨by rw [← hq_]; exact (bT_ BK697.out)⟩; replace BK698 : Aside0 (w74.heap[gb698]? = some (.cells #[.slice none 0 0, .slice none 0 0, .int .u64 0, .slice none 0 0, .int .u32 0, .int .u32 0] 63 (0, 0))) := ⟨by rw [← hq_]; exact (bT_ BK698.out)⟩; replace HB : Aside0 (Below w.heap.size w w74) := ⟨by rw [← hq_]; exact beT_⟩; clear hq_; have hcy697_0 : w74.cell? ⟨gb697, 0, none⟩ = some (.slice A0_0 l0_0.length c0_0) := (blk_cell BK697.out 0).trans rfl; have hcy697_1 : w74.cell? ⟨gb697, 1, none⟩ = some (.slice A0_1 l0_1.length c0_1) := (blk_cell BK697.out 1).trans rfl; have hcy697_2 : w74.cell? ⟨gb697, 2, none⟩ = some (.int .u64 a0_2) := (blk_cell BK697.out 2).trans rfl; have hcy697_3 : w74.cell? ⟨gb697, 3, none⟩ = some (.slice A0_3 l0_3.length c0_3) := (blk_cell BK697.out 3).trans rfl; have hcy697_4 : w74.cell? ⟨gb697, 4, none⟩ = some (.int .u32 a0_4) := (blk_cell BK697.out 4).trans rfl; have hcy697_5 : w74.cell? ⟨gb697, 5, none⟩ = some (.int .u32 a0_5) := (blk_cell BK697.out 5).trans rfl; have hcy698_0 : w74.cell? ⟨gb698, 0, none⟩ = some (.slice none 0 0) := (blk_cell BK698.out 0).trans rfl; have hcy698_1 : w74.cell? ⟨gb698, 1, none⟩ = some (.slice none 0 0) := (blk_cell BK698.out 1).trans rfl; have hcy698_2 : w74.cell? ⟨gb698, 2, none⟩ = some (.int .u64 0) := (blk_cell BK698.out 2).trans rfl; have hcy698_3 : w74.cell? ⟨gb698, 3, none⟩ = some (.slice none 0 0) := (blk_cell BK698.out 3).trans rfl; have hcy698_4 : w74.cell? ⟨gb698, 4, none⟩ = some (.int .u32 0) := (blk_cell BK698.out 4).trans rfl; have hcy698_5 : w74.cell? ⟨gb698, 5, none⟩ = some (.int .u32 0) := (blk_cell BK698.out 5).trans rfl))) | ((with_reducible refine gate_dst (N := 8) rfl ?_); refine bE_ 8 #[.slice none 0 0, .slice none 0 0, .int .u64 0, .slice none 0 0] 29 ?_; intro gb701 hg w77 hbox hb; have BK701 := Aside0.mk hbox; have GW701 := geT_ w.heap.size hg; have GE701 := geT_ w.heap.size hg; have NB697_701 := nlT_ BK697.out hg; have NB701_697 := ngT_ BK697.out hg; have NB698_701 := nlT_ BK698.out hg; have NB701_698 := ngT_ BK698.out hg; replace HO0_0 := vE_ HO0_0.out hg hb; replace HO0_1 := vE_ HO0_1.out hg hb; replace HO0_3 := vE_ HO0_3.out hg hb; replace BK697 := kB_ BK697 hb; replace BK698 := kB_ BK698 hb; replace HB := hB_ hb; clear hb hbox hg; have hnb78 := NB701_697.out; have hnc78 := NB697_701.out; have hnb79 := NB701_698.out; have hnc79 := NB698_701.out; obtain ⟨hcz80_0, hcz80_1, hcz80_2, hcz80_3, hfz80_0, hfz80_1, hfz80_2, hfz80_3⟩ := b4_ BK701.out) | ((with_reducible refine gate_store (t := 29) (p := 8) rfl ?_); refine store_event (t := 29) (p := 8) (v := ?vo_w81) (w1 := ((((w77.setCell ⟨gb701, 0, none⟩ (.slice A0_0 l0_0.length c0_0)).setCell ⟨gb701, 1, none⟩ (.slice A0_1 l0_1.length c0_1)).setCell ⟨gb701, 2, none⟩ (.int .u64 a0_2)).setCell ⟨gb701, 3, none⟩ (.slice A0_3 l0_3.length c0_3))) ?hg ?ho ?hn ?hr ?_; (case ho => rfl); (case hg => rfl); (case hn => rfl); (case hr => first | (go_simp; done) | (go_simp; rfl)); intro w81 hw; replace HO0_0 : Aside0 (Kd.V k83 83 w81 w.heap.size (fun k_ => ((P0_0_ k_ ∨ P0_1_ k_ ∨ P0_3_ k_) ∨ w.heap.size ≤ k_) ∧ k_ ≠ gb697 ∧ k_ ≠ gb698 ∧ k_ ≠ gb701) (.slice A0_0 l0_0.length c0_0) l0_0) := ⟨(by rw [hw]; exact (vF_ HO0_0.out))⟩; replace HO0_1 : Aside0 (Kd.V k88 88 w81 w.heap.size (fun k_ => ((P0_0_ k_ ∨ P0_1_ k_ ∨ P0_3_ k_) ∨ w.heap.size ≤ k_) ∧ k_ ≠ gb697 ∧ k_ ≠ gb698 ∧ k_ ≠ gb701) (.slice A0_1 l0_1.length c0_1) l0_1) := ⟨(by rw [hw]; exact (vF_ HO0_1.out))⟩; replace HO0_3 : Aside0 (Kd.V k41 41 w81 w.heap.size (fun k_ => ((P0_0_ k_ ∨ P0_1_ k_ ∨ P0_3_ k_) ∨ w.heap.size ≤ k_) ∧ k_ ≠ gb697 ∧ k_ ≠ gb698 ∧ k_ ≠ gb701) (.slice A0_3 l0_3.length c0_3) l0_3) := ⟨(by rw [hw]; exact (vF_ HO0_3.out))⟩; replace BK697 : Aside0 (w81.heap[gb697]? = some (.cells #[.slice A0_0 l0_0.length c0_0, .slice A0_1 l0_1.length c0_1, .int .u64 a0_2, .slice A0_3 l0_3.length c0_3, .int .u32 a0_4, .int .u32 a0_5] 63 (0, 0))) := ⟨(by rw [hw]; exact (bfT_ BK697.out))⟩; replace BK698 : Aside0 (w81.heap[gb698]? = some (.cells #[.slice none 0 0, .slice none 0 0, .int .u64 0, .slice none 0 0, .int .u32 0, .int .u32 0] 63 (0, 0))) := ⟨(by rw [hw]; exact (bfT_ BK698.out))⟩; replace BK701 : Aside0 (w81.heap[gb701]? = some (.cells #[.slice A0_0 l0_0.length c0_0, .slice A0_1 l0_1.length c0_1, .int .u64 a0_2, .slice A0_3 l0_3.length c0_3] 29 (0, 0))) := ⟨(by rw [hw]; exact (kP_ BK701.out))⟩; replace HB : Aside0 (Below w.heap.size w w81) := ⟨(by rw [hw]; exact beT_)⟩; clear hw; obtain ⟨hcz82_0, hcz82_1, hcz82_2, hcz82_3, hfz82_0, hfz82_1, hfz82_2, hfz82_3⟩ := b4_ BK701.out) | ((with_reducible refine gate_callee (f := 65) rfl ?_); refine gL_ (some 60) Try.func65 #[.agg #[.slice A0_0 l0_0.length c0_0, .slice A0_1 l0_1.length c0_1, .int .u64 a0_2, .slice A0_3 l0_3.length c0_3], .int .u32 t700, .int .u32 ((t699 - t700) % 4294967296)] ?_; (with_reducible refine (guest_Unmap.calls (fun k_ => (((P0_0_ k_ ∨ P0_1_ k_ ∨ P0_3_ k_) ∨ w.heap.size ≤ k_) ∧ (k_ ≠ gb697 ∧ (k_ ≠ gb698 ∧ k_ ≠ gb701)))) _ _ l0_0 (fun k_ => (((P0_0_ k_ ∨ P0_1_ k_ ∨ P0_3_ k_) ∨ w.heap.size ≤ k_) ∧ (k_ ≠ gb697 ∧ (k_ ≠ gb698 ∧ k_ ≠ gb701)))) _ _ l0_1 a0_2 (fun k_ => (((P0_0_ k_ ∨ P0_1_ k_ ∨ P0_3_ k_) ∨ w.heap.size ≤ k_) ∧ (k_ ≠ gb697 ∧ (k_ ≠ gb698 ∧ k_ ≠ gb701)))) _ _ l0_3 t700 ((t699 - t700) % 4294967296) t714 t717 t720 t721 t724 _ ?side1 ?side2 ?side3 A71.out).mono ?_); (case side1 => first | exact HO0_0.out | exact Kd.V_mono HO0_0.out (fun _ hk => by grind)); (case side2 => first | exact HO0_1.out | exact Kd.V_mono HO0_1.out (fun _ hk => by grind)); (case side3 => first | exact HO0_3.out | exact Kd.V_mono HO0_3.out (fun _ hk => by grind)); rintro e w83 ⟨v715, v718, v722, rfl, ho0, ho1, ho2, hb⟩; refine ⟨_, rfl, ?_⟩; have HO716 := Aside0.mk (Kd.V_lower (Kd.V_mono (ok' := fun k_ => ((P0_0_ k_ ∨ P0_1_ k_ ∨ P0_3_ k_) ∨ w.heap.size ≤ k_) ∧ k_ ≠ gb697 ∧ k_ ≠ gb698 ∧ k_ ≠ gb701) ho0 (fun k_ hk_ => ⟨Or.elim hk_ (fun hs_ => Or.elim hs_ (fun hs_ => hs_.1) (fun hs_ => Or.elim hs_ (fun hs_ => hs_.1) (fun hs_ => hs_.1))) (fun hn_ => (.inr (Nat.le_trans (below_size beT_) hn_))), Or.elim hk_ (fun hs_ => Or.elim hs_ (fun hs_ => hs_.2.1) (fun hs_ => Or.elim hs_ (fun hs_ => hs_.2.1) (fun hs_ => hs_.2.1))) (fun hn_ => (Kd.freshB (g := gb697) (o := .cells #[.slice A0_0 l0_0.length c0_0, .slice A0_1 l0_1.length c0_1, .int .u64 a0_2, .slice A0_3 l0_3.length c0_3, .int .u32 a0_4, .int .u32 a0_5] 63 (0, 0)) (bT_ BK697.out) k_ hn_)), Or.elim hk_ (fun hs_ => Or.elim hs_ (fun hs_ => hs_.2.2.1) (fun hs_ => Or.elim hs_ (fun hs_ => hs_.2.2.1) (fun hs_ => hs_.2.2.1))) (fun hn_ => (Kd.freshB (g := gb698) (o := .cells #[.slice none 0 0, .slice none 0 0, .int .u64 0, .slice none 0 0, .int .u32 0, .int .u32 0] 63 (0, 0)) (bT_ BK698.out) k_ hn_)), Or.elim hk_ (fun hs_ => Or.elim hs_ (fun hs_ => hs_.2.2.2) (fun hs_ => Or.elim hs_ (fun hs_ => hs_.2.2.2) (fun hs_ => hs_.2.2.2))) (fun hn_ => (Kd.freshB (g := gb701) (o := .cells #[.slice A0_0 l0_0.length c0_0, .slice A0_1 l0_1.length c0_1, .int .u64 a0_2, .slice A0_3 l0_3.length c0_3] 29 (0, 0)) (bT_ BK701.out) k_ hn_))⟩)) (below_size beT_)); have HO719 := Aside0.mk (Kd.V_lower (Kd.V_mono (ok' := fun k_ => ((P0_0_ k_ ∨ P0_1_ k_ ∨ P0_3_ k_) ∨ w.heap.size ≤ k_) ∧ k_ ≠ gb697 ∧ k_ ≠ gb698 ∧ k_ ≠ gb701) ho1 (fun k_ hk_ => ⟨Or.elim hk_ (fun hs_ => Or.elim hs_ (fun hs_ => hs_.1) (fun hs_ => Or.elim hs_ (fun hs_ => hs_.1) (fun hs_ => hs_.1))) (fun hn_ => (.inr (Nat.le_trans (below_size beT_) hn_))), Or.elim hk_ (fun hs_ => Or.elim hs_ (fun hs_ => hs_.2.1) (fun hs_ => Or.elim hs_ (fun hs_ => hs_.2.1) (fun hs_ => hs_.2.1))) (fun hn_ => (Kd.freshB (g := gb697) (o := .cells #[.slice A0_0 l0_0.length c0_0, .slice A0_1 l0_1.length c0_1, .int .u64 a0_2, .slice A0_3 l0_3.length c0_3, .int .u32 a0_4, .int .u32 a0_5] 63 (0, 0)) (bT_ BK697.out) k_ hn_)), Or.elim hk_ (fun hs_ => Or.elim hs_ (fun hs_ => hs_.2.2.1) (fun hs_ => Or.elim hs_ (fun hs_ => hs_.2.2.1) (fun hs_ => hs_.2.2.1))) (fun hn_ => (Kd.freshB (g := gb698) (o := .cells #[.slice none 0 0, .slice none 0 0, .int .u64 0, .slice none 0 0, .int .u32 0, .int .u32 0] 63 (0, 0)) (bT_ BK698.out) k_ hn_)), Or.elim hk_ (fun hs_ => Or.elim hs_ (fun hs_ => hs_.2.2.2) (fun hs_ => Or.elim hs_ (fun hs_ => hs_.2.2.2) (fun hs_ => hs_.2.2.2))) (fun hn_ => (Kd.freshB (g := gb701) (o := .cells #[.slice A0_0 l0_0.length c0_0, .slice A0_1 l0_1.length c0_1, .int .u64 a0_2, .slice A0_3 l0_3.length c0_3] 29 (0, 0)) (bT_ BK701.out) k_ hn_))⟩)) (below_size beT_)); have HO723 := Aside0.mk (Kd.V_lower (Kd.V_mono (ok' := fun k_ => ((P0_0_ k_ ∨ P0_1_ k_ ∨ P0_3_ k_) ∨ w.heap.size ≤ k_) ∧ k_ ≠ gb697 ∧ k_ ≠ gb698 ∧ k_ ≠ gb701) ho2 (fun k_ hk_ => ⟨Or.elim hk_ (fun hs_ => Or.elim hs_ (fun hs_ => hs_.1) (fun hs_ => Or.elim hs_ (fun hs_ => hs_.1) (fun hs_ => hs_.1))) (fun hn_ => (.inr (Nat.le_trans (below_size beT_) hn_))), Or.elim hk_ (fun hs_ => Or.elim hs_ (fun hs_ => hs_.2.1) (fun hs_ => Or.elim hs_ (fun hs_ => hs_.2.1) (fun hs_ => hs_.2.1))) (fun hn_ => (Kd.freshB (g := gb697) (o := .cells #[.slice A0_0 l0_0.length c0_0, .slice A0_1 l0_1.length c0_1, .int .u64 a0_2, .slice A0_3 l0_3.length c0_3, .int .u32 a0_4, .int .u32 a0_5] 63 (0, 0)) (bT_ BK697.out) k_ hn_)), Or.elim hk_ (fun hs_ => Or.elim hs_ (fun hs_ => hs_.2.2.1) (fun hs_ => Or.elim hs_ (fun hs_ => hs_.2.2.1) (fun hs_ => hs_.2.2.1))) (fun hn_ => (Kd.freshB (g := gb698) (o := .cells #[.slice none 0 0, .slice none 0 0, .int .u64 0, .slice none 0 0, .int .u32 0, .int .u32 0] 63 (0, 0)) (bT_ BK698.out) k_ hn_)), Or.elim hk_ (fun hs_ => Or.elim hs_ (fun hs_ => hs_.2.2.2) (fun hs_ => Or.elim hs_ (fun hs_ => hs_.2.2.2) (fun hs_ => hs_.2.2.2))) (fun hn_ => (Kd.freshB (g := gb701) (o := .cells #[.slice A0_0 l0_0.length c0_0, .slice A0_1 l0_1.length c0_1, .int .u64 a0_2, .slice A0_3 l0_3.length c0_3] 29 (0, 0)) (bT_ BK701.out) k_ hn_))⟩)) (below_size beT_)); replace HO0_0 := vB_ HO0_0.out hb; replace HO0_1 := vB_ HO0_1.out hb; replace HO0_3 := vB_ HO0_3.out hb; replace BK697 := kB_ BK697 hb; replace BK698 := kB_ BK698 hb; replace BK701 := kB_ BK701 hb; replace HB := hB_ hb; (try clear hb); (try clear hb2); (try clear hk); (try clear hi); (try clear ho0); (try clear ho1); (try clear ho2); obtain ⟨Ao84, co84, eo84⟩ := Kd.V_slice HO716.out; subst eo84; obtain ⟨hcz85_0, hcz85_1, hcz85_2, hcz85_3, hfz85_0, hfz85_1, hfz85_2, hfz85_3⟩ := b4_ BK701.out; obtain ⟨Ao86, co86, eo86⟩ := Kd.V_slice HO719.out; subst eo86; obtain ⟨Ao87, co87, eo87⟩ := Kd.V_slice HO723.out; subst eo87; obtain ⟨hcz88_0, hcz88_1, hcz88_2, hcz88_3, hcz88_4, hcz88_5, hfz88_0, hfz88_1, hfz88_2, hfz88_3, hfz88_4, hfz88_5⟩ := b6_ BK697.out; obtain ⟨hcz89_0, hcz89_1, hcz89_2, hcz89_3, hcz89_4, hcz89_5, hfz89_0, hfz89_1, hfz89_2, hfz89_3, hfz89_4, hfz89_5⟩ := b6_ BK698.out))
      refine bodyPost_ret (results_ct rfl _ _ gb698 63 #[.slice Ao84 t714.length co84, .slice Ao86 t717.length co86, .int .u64 t720, .slice Ao87 t721.length co87, .int .u32 a0_4, .int .u32 a1] (0, 0) _ rfl (kP_ BK698.out) Try.underlying63 rfl (by kernel_rfl)) rfl ?_
      exact ⟨_, _, _, r3_, (vF_ HO716.out), (vF_ HO719.out), (vF_ HO723.out), beT_⟩
    rw [if_neg c72] at H
    have c72b0 : (t724 == 0) = false := beq_eq_false_iff_ne.mpr c72
    have c72b1 : (t724 != 0) = true := bne_iff_ne.mpr c72
    simp only [Option.some.injEq, Prod.mk.injEq] at H
    obtain ⟨rfl, rfl, rfl, rfl, rfl, rfl, rfl⟩ := H
    go_enter Try.func34, Try.ntmps34
    try go_wp2_with (first | ((with_reducible refine gate_dst (N := 2) rfl ?_); refine bE_ 2 #[.slice A0_0 l0_0.length c0_0, .slice A0_1 l0_1.length c0_1, .int .u64 a0_2, .slice A0_3 l0_3.length c0_3, .int .u32 a0_4, .int .u32 a0_5] 63 ?_; intro gb697 hg w90 hbox hb; have BK697 := Aside0.mk hbox; have GW697 := geT_ w.heap.size hg; have GE697 := geT_ w.heap.size hg; replace HO0_0 := vE_ HO0_0.out hg hb; replace HO0_1 := vE_ HO0_1.out hg hb; replace HO0_3 := vE_ HO0_3.out hg hb; replace HB := hB_ hb; clear hb hbox hg) | ((with_reducible refine gate_dst (N := 4) rfl ?_); refine bE_ 4 #[.slice none 0 0, .slice none 0 0, .int .u64 0, .slice none 0 0, .int .u32 0, .int .u32 0] 63 ?_; intro gb698 hg w91 hbox hb; have BK698 := Aside0.mk hbox; have GW698 := geT_ w.heap.size hg; have GE698 := geT_ w.heap.size hg; have NB697_698 := nlT_ BK697.out hg; have NB698_697 := ngT_ BK697.out hg; replace HO0_0 := vE_ HO0_0.out hg hb; replace HO0_1 := vE_ HO0_1.out hg hb; replace HO0_3 := vE_ HO0_3.out hg hb; replace BK697 := kB_ BK697 hb; replace HB := hB_ hb; clear hb hbox hg; have hnb92 := NB697_698.out; have hnc92 := NB698_697.out; obtain ⟨hcz93_0, hcz93_1, hcz93_2, hcz93_3, hcz93_4, hcz93_5, hfz93_0, hfz93_1, hfz93_2, hfz93_3, hfz93_4, hfz93_5⟩ := b6_ BK697.out) | ((with_reducible refine gate_callee (f := 62) rfl ?_); refine gL_ (some 12) Try.func62 #[.int .u32 a0_5] ?_; (with_reducible refine (gmap_count.calls a0_5 t699 _ A3.out).mono ?_); rintro e w' ⟨rfl, ⟨nd, rfl⟩⟩; refine ⟨_, rfl, ?_⟩; (try (rw [drewN_self w91]; generalize hq_ : World.drewN w91 _ = w91; replace HO0_0 : Aside0 (Kd.V k83 83 w91 w.heap.size (fun k_ => ((P0_0_ k_ ∨ P0_1_ k_ ∨ P0_3_ k_) ∨ w.heap.size ≤ k_) ∧ k_ ≠ gb697 ∧ k_ ≠ gb698) (.slice A0_0 l0_0.length c0_0) l0_0) := ⟨by rw [← hq_]; exact (vM_ HO0_0.out)⟩; replace HO0_1 : Aside0 (Kd.V k88 88 w91 w.heap.size (fun k_ => ((P0_0_ k_ ∨ P0_1_ k_ ∨ P0_3_ k_) ∨ w.heap.size ≤ k_) ∧ k_ ≠ gb697 ∧ k_ ≠ gb698) (.slice A0_1 l0_1.length c0_1) l0_1) := ⟨by rw [← hq_]; exact (vM_ HO0_1.out)⟩; replace HO0_3 : Aside0 (Kd.V k41 41 w91 w.heap.size (fun k_ => ((P0_0_ k_ ∨ P0_1_ k_ ∨ P0_3_ k_) ∨ w.heap.size ≤ k_) ∧ k_ ≠ gb697 ∧ k_ ≠ gb698) (.slice A0_3 l0_3.length c0_3) l0_3) := ⟨by rw [← hq_]; exact (vM_ HO0_3.out)⟩; replace BK697 : Aside0 (w91.heap[gb697]? = some (.cells #[.slice A0_0 l0_0.length c0_0, .slice A0_1 l0_1.length c0_1, .int .u64 a0_2, .slice A0_3 l0_3.length c0_3, .int .u32 a0_4, .int .u32 a0_5] 63 (0, 0))) := ⟨by rw [← hq_]; exact (bT_ BK697.out)⟩; replace BK698 : Aside0 (w91.heap[gb698]? = some (.cells #[.slice none 0 0, .slice none 0 0, .int .u64 0, .slice none 0 0, .int .u32 0, .int .u32 0] 63 (0, 0))) := ⟨by rw [← hq_]; exact (bT_ BK698.out)⟩; replace HB : Aside0 (Below w.heap.size w w91) := ⟨by rw [← hq_]; exact beT_⟩; clear hq_; have hcy697_0 : w91.cell? ⟨gb697, 0, none⟩ = some (.slice A0_0 l0_0.length c0_0) := (blk_cell BK697.out 0).trans rfl; have hcy697_1 : w91.cell? ⟨gb697, 1, none⟩ = some (.slice A0_1 l0_1.length c0_1) := (blk_cell BK697.out 1).trans rfl; have hcy697_2 : w91.cell? ⟨gb697, 2, none⟩ = some (.int .u64 a0_2) := (blk_cell BK697.out 2).trans rfl; have hcy697_3 : w91.cell? ⟨gb697, 3, none⟩ = some (.slice A0_3 l0_3.length c0_3) := (blk_cell BK697.out 3).trans rfl; have hcy697_4 : w91.cell? ⟨gb697, 4, none⟩ = some (.int .u32 a0_4) := (blk_cell BK697.out 4).trans rfl; have hcy697_5 : w91.cell? ⟨gb697, 5, none⟩ = some (.int .u32 a0_5) := (blk_cell BK697.out 5).trans rfl; have hcy698_0 : w91.cell? ⟨gb698, 0, none⟩ = some (.slice none 0 0) := (blk_cell BK698.out 0).trans rfl; have hcy698_1 : w91.cell? ⟨gb698, 1, none⟩ = some (.slice none 0 0) := (blk_cell BK698.out 1).trans rfl; have hcy698_2 : w91.cell? ⟨gb698, 2, none⟩ = some (.int .u64 0) := (blk_cell BK698.out 2).trans rfl; have hcy698_3 : w91.cell? ⟨gb698, 3, none⟩ = some (.slice none 0 0) := (blk_cell BK698.out 3).trans rfl; have hcy698_4 : w91.cell? ⟨gb698, 4, none⟩ = some (.int .u32 0) := (blk_cell BK698.out 4).trans rfl; have hcy698_5 : w91.cell? ⟨gb698, 5, none⟩ = some (.int .u32 0) := (blk_cell BK698.out 5).trans rfl))) | ((with_reducible refine gate_callee (f := 62) rfl ?_); refine gL_ (some 14) Try.func62 #[.int .u32 a1] ?_; (with_reducible refine (gmap_count.calls a1 t700 _ A4.out).mono ?_); rintro e w' ⟨rfl, ⟨nd, rfl⟩⟩; refine ⟨_, rfl, ?_⟩; (try (rw [drewN_self w91]; generalize hq_ : World.drewN w91 _ = w91; replace HO0_0 : Aside0 (Kd.V k83 83 w91 w.heap.size (fun k_ => ((P0_0_ k_ ∨ P0_1_ k_ ∨ P0_3_ k_) ∨ w.heap.size ≤ k_) ∧ k_ ≠ gb697 ∧ k_ ≠ gb698) (.slice A0_0 l0_0.length c0_0) l0_0) := ⟨by rw [← hq_]; exact (vM_ HO0_0.out)⟩; replace HO0_1 : Aside0 (Kd.V k88 88 w91 w.heap.size (fun k_ => ((P0_0_ k_ ∨ P0_1_ k_ ∨ P0_3_ k_) ∨ w.heap.size ≤ k_) ∧ k_ ≠ gb697 ∧ k_ ≠ gb698) (.slice A0_1 l0_1.length c0_1) l0_1) := ⟨by rw [← hq_]; exact (vM_ HO0_1.out)⟩; replace HO0_3 : Aside0 (Kd.V k41 41 w91 w.heap.size (fun k_ => ((P0_0_ k_ ∨ P0_1_ k_ ∨ P0_3_ k_) ∨ w.heap.size ≤ k_) ∧ k_ ≠ gb697 ∧ k_ ≠ gb698) (.slice A0_3 l0_3.length c0_3) l0_3) := ⟨by rw [← hq_]; exact (vM_ HO0_3.out)⟩; replace BK697 : Aside0 (w91.heap[gb697]? = some (.cells #[.slice A0_0 l0_0.length c0_0, .slice A0_1 l0_1.length c0_1, .int .u64 a0_2, .slice A0_3 l0_3.length c0_3, .int .u32 a0_4, .int .u32 a0_5] 63 (0, 0))) := ⟨by rw [← hq_]; exact (bT_ BK697.out)⟩; replace BK698 : Aside0 (w91.heap[gb698]? = some (.cells #[.slice none 0 0, .slice none 0 0, .int .u64 0, .slice none 0 0, .int .u32 0, .int .u32 0] 63 (0, 0))) := ⟨by rw [← hq_]; exact (bT_ BK698.out)⟩; replace HB : Aside0 (Below w.heap.size w w91) := ⟨by rw [← hq_]; exact beT_⟩; clear hq_; have hcy697_0 : w91.cell? ⟨gb697, 0, none⟩ = some (.slice A0_0 l0_0.length c0_0) := (blk_cell BK697.out 0).trans rfl; have hcy697_1 : w91.cell? ⟨gb697, 1, none⟩ = some (.slice A0_1 l0_1.length c0_1) := (blk_cell BK697.out 1).trans rfl; have hcy697_2 : w91.cell? ⟨gb697, 2, none⟩ = some (.int .u64 a0_2) := (blk_cell BK697.out 2).trans rfl; have hcy697_3 : w91.cell? ⟨gb697, 3, none⟩ = some (.slice A0_3 l0_3.length c0_3) := (blk_cell BK697.out 3).trans rfl; have hcy697_4 : w91.cell? ⟨gb697, 4, none⟩ = some (.int .u32 a0_4) := (blk_cell BK697.out 4).trans rfl; have hcy697_5 : w91.cell? ⟨gb697, 5, none⟩ = some (.int .u32 a0_5) := (blk_cell BK697.out 5).trans rfl; have hcy698_0 : w91.cell? ⟨gb698, 0, none⟩ = some (.slice none 0 0) := (blk_cell BK698.out 0).trans rfl; have hcy698_1 : w91.cell? ⟨gb698, 1, none⟩ = some (.slice none 0 0) := (blk_cell BK698.out 1).trans rfl; have hcy698_2 : w91.cell? ⟨gb698, 2, none⟩ = some (.int .u64 0) := (blk_cell BK698.out 2).trans rfl; have hcy698_3 : w91.cell? ⟨gb698, 3, none⟩ = some (.slice none 0 0) := (blk_cell BK698.out 3).trans rfl; have hcy698_4 : w91.cell? ⟨gb698, 4, none⟩ = some (.int .u32 0) := (blk_cell BK698.out 4).trans rfl; have hcy698_5 : w91.cell? ⟨gb698, 5, none⟩ = some (.int .u32 0) := (blk_cell BK698.out 5).trans rfl))) | ((with_reducible refine gate_dst (N := 8) rfl ?_); refine bE_ 8 #[.slice none 0 0, .slice none 0 0, .int .u64 0, .slice none 0 0] 29 ?_; intro gb701 hg w94 hbox hb; have BK701 := Aside0.mk hbox; have GW701 := geT_ w.heap.size hg; have GE701 := geT_ w.heap.size hg; have NB697_701 := nlT_ BK697.out hg; have NB701_697 := ngT_ BK697.out hg; have NB698_701 := nlT_ BK698.out hg; have NB701_698 := ngT_ BK698.out hg; replace HO0_0 := vE_ HO0_0.out hg hb; replace HO0_1 := vE_ HO0_1.out hg hb; replace HO0_3 := vE_ HO0_3.out hg hb; replace BK697 := kB_ BK697 hb; replace BK698 := kB_ BK698 hb; replace HB := hB_ hb; clear hb hbox hg; have hnb95 := NB701_697.out; have hnc95 := NB697_701.out; have hnb96 := NB701_698.out; have hnc96 := NB698_701.out; obtain ⟨hcz97_0, hcz97_1, hcz97_2, hcz97_3, hfz97_0, hfz97_1, hfz97_2, hfz97_3⟩ := b4_ BK701.out) | ((with_reducible refine gate_store (t := 29) (p := 8) rfl ?_); refine store_event (t := 29) (p := 8) (v := ?vo_w98) (w1 := ((((w94.setCell ⟨gb701, 0, none⟩ (.slice A0_0 l0_0.length c0_0)).setCell ⟨gb701, 1, none⟩ (.slice A0_1 l0_1.length c0_1)).setCell ⟨gb701, 2, none⟩ (.int .u64 a0_2)).setCell ⟨gb701, 3, none⟩ (.slice A0_3 l0_3.length c0_3))) ?hg ?ho ?hn ?hr ?_; (case ho => rfl); (case hg => rfl); (case hn => rfl); (case hr => first | (go_simp; done) | (go_simp; rfl)); intro w98 hw; replace HO0_0 : Aside0 (Kd.V k83 83 w98 w.heap.size (fun k_ => ((P0_0_ k_ ∨ P0_1_ k_ ∨ P0_3_ k_) ∨ w.heap.size ≤ k_) ∧ k_ ≠ gb697 ∧ k_ ≠ gb698 ∧ k_ ≠ gb701) (.slice A0_0 l0_0.length c0_0) l0_0) := ⟨(by rw [hw]; exact (vF_ HO0_0.out))⟩; replace HO0_1 : Aside0 (Kd.V k88 88 w98 w.heap.size (fun k_ => ((P0_0_ k_ ∨ P0_1_ k_ ∨ P0_3_ k_) ∨ w.heap.size ≤ k_) ∧ k_ ≠ gb697 ∧ k_ ≠ gb698 ∧ k_ ≠ gb701) (.slice A0_1 l0_1.length c0_1) l0_1) := ⟨(by rw [hw]; exact (vF_ HO0_1.out))⟩; replace HO0_3 : Aside0 (Kd.V k41 41 w98 w.heap.size (fun k_ => ((P0_0_ k_ ∨ P0_1_ k_ ∨ P0_3_ k_) ∨ w.heap.size ≤ k_) ∧ k_ ≠ gb697 ∧ k_ ≠ gb698 ∧ k_ ≠ gb701) (.slice A0_3 l0_3.length c0_3) l0_3) := ⟨(by rw [hw]; exact (vF_ HO0_3.out))⟩; replace BK697 : Aside0 (w98.heap[gb697]? = some (.cells #[.slice A0_0 l0_0.length c0_0, .slice A0_1 l0_1.length c0_1, .int .u64 a0_2, .slice A0_3 l0_3.length c0_3, .int .u32 a0_4, .int .u32 a0_5] 63 (0, 0))) := ⟨(by rw [hw]; exact (bfT_ BK697.out))⟩; replace BK698 : Aside0 (w98.heap[gb698]? = some (.cells #[.slice none 0 0, .slice none 0 0, .int .u64 0, .slice none 0 0, .int .u32 0, .int .u32 0] 63 (0, 0))) := ⟨(by rw [hw]; exact (bfT_ BK698.out))⟩; replace BK701 : Aside0 (w98.heap[gb701]? = some (.cells #[.slice A0_0 l0_0.length c0_0, .slice A0_1 l0_1.length c0_1, .int .u64 a0_2, .slice A0_3 l0_3.length c0_3] 29 (0, 0))) := ⟨(by rw [hw]; exact (kP_ BK701.out))⟩; replace HB : Aside0 (Below w.heap.size w w98) := ⟨(by rw [hw]; exact beT_)⟩; clear hw; obtain ⟨hcz99_0, hcz99_1, hcz99_2, hcz99_3, hfz99_0, hfz99_1, hfz99_2, hfz99_3⟩ := b4_ BK701.out) | ((with_reducible refine gate_callee (f := 65) rfl ?_); refine gL_ (some 60) Try.func65 #[.agg #[.slice A0_0 l0_0.length c0_0, .slice A0_1 l0_1.length c0_1, .int .u64 a0_2, .slice A0_3 l0_3.length c0_3], .int .u32 t700, .int .u32 ((t699 - t700) % 4294967296)] ?_; (with_reducible refine (guest_Unmap.calls (fun k_ => (((P0_0_ k_ ∨ P0_1_ k_ ∨ P0_3_ k_) ∨ w.heap.size ≤ k_) ∧ (k_ ≠ gb697 ∧ (k_ ≠ gb698 ∧ k_ ≠ gb701)))) _ _ l0_0 (fun k_ => (((P0_0_ k_ ∨ P0_1_ k_ ∨ P0_3_ k_) ∨ w.heap.size ≤ k_) ∧ (k_ ≠ gb697 ∧ (k_ ≠ gb698 ∧ k_ ≠ gb701)))) _ _ l0_1 a0_2 (fun k_ => (((P0_0_ k_ ∨ P0_1_ k_ ∨ P0_3_ k_) ∨ w.heap.size ≤ k_) ∧ (k_ ≠ gb697 ∧ (k_ ≠ gb698 ∧ k_ ≠ gb701)))) _ _ l0_3 t700 ((t699 - t700) % 4294967296) t714 t717 t720 t721 t724 _ ?side1 ?side2 ?side3 A71.out).mono ?_); (case side1 => first | exact HO0_0.out | exact Kd.V_mono HO0_0.out (fun _ hk => by grind)); (case side2 => first | exact HO0_1.out | exact Kd.V_mono HO0_1.out (fun _ hk => by grind)); (case side3 => first | exact HO0_3.out | exact Kd.V_mono HO0_3.out (fun _ hk => by grind)); rintro e w100 ⟨v715, v718, v722, rfl, ho0, ho1, ho2, hb⟩; refine ⟨_, rfl, ?_⟩; have HO716 := Aside0.mk (Kd.V_lower (Kd.V_mono (ok' := fun k_ => ((P0_0_ k_ ∨ P0_1_ k_ ∨ P0_3_ k_) ∨ w.heap.size ≤ k_) ∧ k_ ≠ gb697 ∧ k_ ≠ gb698 ∧ k_ ≠ gb701) ho0 (fun k_ hk_ => ⟨Or.elim hk_ (fun hs_ => Or.elim hs_ (fun hs_ => hs_.1) (fun hs_ => Or.elim hs_ (fun hs_ => hs_.1) (fun hs_ => hs_.1))) (fun hn_ => (.inr (Nat.le_trans (below_size beT_) hn_))), Or.elim hk_ (fun hs_ => Or.elim hs_ (fun hs_ => hs_.2.1) (fun hs_ => Or.elim hs_ (fun hs_ => hs_.2.1) (fun hs_ => hs_.2.1))) (fun hn_ => (Kd.freshB (g := gb697) (o := .cells #[.slice A0_0 l0_0.length c0_0, .slice A0_1 l0_1.length c0_1, .int .u64 a0_2, .slice A0_3 l0_3.length c0_3, .int .u32 a0_4, .int .u32 a0_5] 63 (0, 0)) (bT_ BK697.out) k_ hn_)), Or.elim hk_ (fun hs_ => Or.elim hs_ (fun hs_ => hs_.2.2.1) (fun hs_ => Or.elim hs_ (fun hs_ => hs_.2.2.1) (fun hs_ => hs_.2.2.1))) (fun hn_ => (Kd.freshB (g := gb698) (o := .cells #[.slice none 0 0, .slice none 0 0, .int .u64 0, .slice none 0 0, .int .u32 0, .int .u32 0] 63 (0, 0)) (bT_ BK698.out) k_ hn_)), Or.elim hk_ (fun hs_ => Or.elim hs_ (fun hs_ => hs_.2.2.2) (fun hs_ => Or.elim hs_ (fun hs_ => hs_.2.2.2) (fun hs_ => hs_.2.2.2))) (fun hn_ => (Kd.freshB (g := gb701) (o := .cells #[.slice A0_0 l0_0.length c0_0, .slice A0_1 l0_1.length c0_1, .int .u64 a0_2, .slice A0_3 l0_3.length c0_3] 29 (0, 0)) (bT_ BK701.out) k_ hn_))⟩)) (below_size beT_)); have HO719 := Aside0.mk (Kd.V_lower (Kd.V_mono (ok' := fun k_ => ((P0_0_ k_ ∨ P0_1_ k_ ∨ P0_3_ k_) ∨ w.heap.size ≤ k_) ∧ k_ ≠ gb697 ∧ k_ ≠ gb698 ∧ k_ ≠ gb701) ho1 (fun k_ hk_ => ⟨Or.elim hk_ (fun hs_ => Or.elim hs_ (fun hs_ => hs_.1) (fun hs_ => Or.elim hs_ (fun hs_ => hs_.1) (fun hs_ => hs_.1))) (fun hn_ => (.inr (Nat.le_trans (below_size beT_) hn_))), Or.elim hk_ (fun hs_ => Or.elim hs_ (fun hs_ => hs_.2.1) (fun hs_ => Or.elim hs_ (fun hs_ => hs_.2.1) (fun hs_ => hs_.2.1))) (fun hn_ => (Kd.freshB (g := gb697) (o := .cells #[.slice A0_0 l0_0.length c0_0, .slice A0_1 l0_1.length c0_1, .int .u64 a0_2, .slice A0_3 l0_3.length c0_3, .int .u32 a0_4, .int .u32 a0_5] 63 (0, 0)) (bT_ BK697.out) k_ hn_)), Or.elim hk_ (fun hs_ => Or.elim hs_ (fun hs_ => hs_.2.2.1) (fun hs_ => Or.elim hs_ (fun hs_ => hs_.2.2.1) (fun hs_ => hs_.2.2.1))) (fun hn_ => (Kd.freshB (g := gb698) (o := .cells #[.slice none 0 0, .slice none 0 0, .int .u64 0, .slice none 0 0, .int .u32 0, .int .u32 0] 63 (0, 0)) (bT_ BK698.out) k_ hn_)), Or.elim hk_ (fun hs_ => Or.elim hs_ (fun hs_ => hs_.2.2.2) (fun hs_ => Or.elim hs_ (fun hs_ => hs_.2.2.2) (fun hs_ => hs_.2.2.2))) (fun hn_ => (Kd.freshB (g := gb701) (o := .cells #[.slice A0_0 l0_0.length c0_0, .slice A0_1 l0_1.length c0_1, .int .u64 a0_2, .slice A0_3 l0_3.length c0_3] 29 (0, 0)) (bT_ BK701.out) k_ hn_))⟩)) (below_size beT_)); have HO723 := Aside0.mk (Kd.V_lower (Kd.V_mono (ok' := fun k_ => ((P0_0_ k_ ∨ P0_1_ k_ ∨ P0_3_ k_) ∨ w.heap.size ≤ k_) ∧ k_ ≠ gb697 ∧ k_ ≠ gb698 ∧ k_ ≠ gb701) ho2 (fun k_ hk_ => ⟨Or.elim hk_ (fun hs_ => Or.elim hs_ (fun hs_ => hs_.1) (fun hs_ => Or.elim hs_ (fun hs_ => hs_.1) (fun hs_ => hs_.1))) (fun hn_ => (.inr (Nat.le_trans (below_size beT_) hn_))), Or.elim hk_ (fun hs_ => Or.elim hs_ (fun hs_ => hs_.2.1) (fun hs_ => Or.elim hs_ (fun hs_ => hs_.2.1) (fun hs_ => hs_.2.1))) (fun hn_ => (Kd.freshB (g := gb697) (o := .cells #[.slice A0_0 l0_0.length c0_0, .slice A0_1 l0_1.length c0_1, .int .u64 a0_2, .slice A0_3 l0_3.length c0_3, .int .u32 a0_4, .int .u32 a0_5] 63 (0, 0)) (bT_ BK697.out) k_ hn_)), Or.elim hk_ (fun hs_ => Or.elim hs_ (fun hs_ => hs_.2.2.1) (fun hs_ => Or.elim hs_ (fun hs_ => hs_.2.2.1) (fun hs_ => hs_.2.2.1))) (fun hn_ => (Kd.freshB (g := gb698) (o := .cells #[.slice none 0 0, .slice none 0 0, .int .u64 0, .slice none 0 0, .int .u32 0, .int .u32 0] 63 (0, 0)) (bT_ BK698.out) k_ hn_)), Or.elim hk_ (fun hs_ => Or.elim hs_ (fun hs_ => hs_.2.2.2) (fun hs_ => Or.elim hs_ (fun hs_ => hs_.2.2.2) (fun hs_ => hs_.2.2.2))) (fun hn_ => (Kd.freshB (g := gb701) (o := .cells #[.slice A0_0 l0_0.length c0_0, .slice A0_1 l0_1.length c0_1, .int .u64 a0_2, .slice A0_3 l0_3.length c0_3] 29 (0, 0)) (bT_ BK701.out) k_ hn_))⟩)) (below_size beT_)); replace HO0_0 := vB_ HO0_0.out hb; replace HO0_1 := vB_ HO0_1.out hb; replace HO0_3 := vB_ HO0_3.out hb; replace BK697 := kB_ BK697 hb; replace BK698 := kB_ BK698 hb; replace BK701 := kB_ BK701 hb; replace HB := hB_ hb; (try clear hb); (try clear hb2); (try clear hk); (try clear hi); (try clear ho0); (try clear ho1); (try clear ho2); obtain ⟨Ao101, co101, eo101⟩ := Kd.V_slice HO716.out; subst eo101; obtain ⟨hcz102_0, hcz102_1, hcz102_2, hcz102_3, hfz102_0, hfz102_1, hfz102_2, hfz102_3⟩ := b4_ BK701.out; obtain ⟨Ao103, co103, eo103⟩ := Kd.V_slice HO719.out; subst eo103; obtain ⟨Ao104, co104, eo104⟩ := Kd.V_slice HO723.out; subst eo104))
    have n0_ : Aside0 (Kd.V k83 83 ((((w100.setCell ⟨gb701, 0, none⟩ (.slice Ao101 t714.length co101)).setCell ⟨gb701, 1, none⟩ (.slice Ao103 t717.length co103)).setCell ⟨gb701, 2, none⟩ (.int .u64 t720)).setCell ⟨gb701, 3, none⟩ (.slice Ao104 t721.length co104)) w.heap.size (fun k_ => ((P0_0_ k_ ∨ P0_1_ k_ ∨ P0_3_ k_) ∨ w.heap.size ≤ k_) ∧ k_ ≠ gb697 ∧ k_ ≠ gb698 ∧ k_ ≠ gb701) (.slice A0_0 l0_0.length c0_0) l0_0) := ⟨vF_ HO0_0.out⟩
    have n1_ : Aside0 (Kd.V k88 88 ((((w100.setCell ⟨gb701, 0, none⟩ (.slice Ao101 t714.length co101)).setCell ⟨gb701, 1, none⟩ (.slice Ao103 t717.length co103)).setCell ⟨gb701, 2, none⟩ (.int .u64 t720)).setCell ⟨gb701, 3, none⟩ (.slice Ao104 t721.length co104)) w.heap.size (fun k_ => ((P0_0_ k_ ∨ P0_1_ k_ ∨ P0_3_ k_) ∨ w.heap.size ≤ k_) ∧ k_ ≠ gb697 ∧ k_ ≠ gb698 ∧ k_ ≠ gb701) (.slice A0_1 l0_1.length c0_1) l0_1) := ⟨vF_ HO0_1.out⟩
    have n2_ : Aside0 (Kd.V k41 41 ((((w100.setCell ⟨gb701, 0, none⟩ (.slice Ao101 t714.length co101)).setCell ⟨gb701, 1, none⟩ (.slice Ao103 t717.length co103)).setCell ⟨gb701, 2, none⟩ (.int .u64 t720)).setCell ⟨gb701, 3, none⟩ (.slice Ao104 t721.length co104)) w.heap.size (fun k_ => ((P0_0_ k_ ∨ P0_1_ k_ ∨ P0_3_ k_) ∨ w.heap.size ≤ k_) ∧ k_ ≠ gb697 ∧ k_ ≠ gb698 ∧ k_ ≠ gb701) (.slice A0_3 l0_3.length c0_3) l0_3) := ⟨vF_ HO0_3.out⟩
    have n3_ : Aside0 (Kd.V k83 83 ((((w100.setCell ⟨gb701, 0, none⟩ (.slice Ao101 t714.length co101)).setCell ⟨gb701, 1, none⟩ (.slice Ao103 t717.length co103)).setCell ⟨gb701, 2, none⟩ (.int .u64 t720)).setCell ⟨gb701, 3, none⟩ (.slice Ao104 t721.length co104)) w.heap.size (fun k_ => ((P0_0_ k_ ∨ P0_1_ k_ ∨ P0_3_ k_) ∨ w.heap.size ≤ k_) ∧ k_ ≠ gb697 ∧ k_ ≠ gb698 ∧ k_ ≠ gb701) (.slice Ao101 t714.length co101) t714) := ⟨vF_ HO716.out⟩
    have n4_ : Aside0 (Kd.V k88 88 ((((w100.setCell ⟨gb701, 0, none⟩ (.slice Ao101 t714.length co101)).setCell ⟨gb701, 1, none⟩ (.slice Ao103 t717.length co103)).setCell ⟨gb701, 2, none⟩ (.int .u64 t720)).setCell ⟨gb701, 3, none⟩ (.slice Ao104 t721.length co104)) w.heap.size (fun k_ => ((P0_0_ k_ ∨ P0_1_ k_ ∨ P0_3_ k_) ∨ w.heap.size ≤ k_) ∧ k_ ≠ gb697 ∧ k_ ≠ gb698 ∧ k_ ≠ gb701) (.slice Ao103 t717.length co103) t717) := ⟨vF_ HO719.out⟩
    have n5_ : Aside0 (Kd.V k41 41 ((((w100.setCell ⟨gb701, 0, none⟩ (.slice Ao101 t714.length co101)).setCell ⟨gb701, 1, none⟩ (.slice Ao103 t717.length co103)).setCell ⟨gb701, 2, none⟩ (.int .u64 t720)).setCell ⟨gb701, 3, none⟩ (.slice Ao104 t721.length co104)) w.heap.size (fun k_ => ((P0_0_ k_ ∨ P0_1_ k_ ∨ P0_3_ k_) ∨ w.heap.size ≤ k_) ∧ k_ ≠ gb697 ∧ k_ ≠ gb698 ∧ k_ ≠ gb701) (.slice Ao104 t721.length co104) t721) := ⟨vF_ HO723.out⟩
    have n6_ : Aside0 (((((w100.setCell ⟨gb701, 0, none⟩ (.slice Ao101 t714.length co101)).setCell ⟨gb701, 1, none⟩ (.slice Ao103 t717.length co103)).setCell ⟨gb701, 2, none⟩ (.int .u64 t720)).setCell ⟨gb701, 3, none⟩ (.slice Ao104 t721.length co104)).heap[gb697]? = some (.cells #[.slice A0_0 l0_0.length c0_0, .slice A0_1 l0_1.length c0_1, .int .u64 a0_2, .slice A0_3 l0_3.length c0_3, .int .u32 a0_4, .int .u32 a0_5] 63 (0, 0))) := ⟨bfT_ BK697.out⟩
    have n7_ : Aside0 (((((w100.setCell ⟨gb701, 0, none⟩ (.slice Ao101 t714.length co101)).setCell ⟨gb701, 1, none⟩ (.slice Ao103 t717.length co103)).setCell ⟨gb701, 2, none⟩ (.int .u64 t720)).setCell ⟨gb701, 3, none⟩ (.slice Ao104 t721.length co104)).heap[gb698]? = some (.cells #[.slice none 0 0, .slice none 0 0, .int .u64 0, .slice none 0 0, .int .u32 0, .int .u32 0] 63 (0, 0))) := ⟨bfT_ BK698.out⟩
    have n8_ : Aside0 (((((w100.setCell ⟨gb701, 0, none⟩ (.slice Ao101 t714.length co101)).setCell ⟨gb701, 1, none⟩ (.slice Ao103 t717.length co103)).setCell ⟨gb701, 2, none⟩ (.int .u64 t720)).setCell ⟨gb701, 3, none⟩ (.slice Ao104 t721.length co104)).heap[gb701]? = some (.cells #[.slice Ao101 t714.length co101, .slice Ao103 t717.length co103, .int .u64 t720, .slice Ao104 t721.length co104] 29 (0, 0))) := ⟨kP_ BK701.out⟩
    have n9_ : Aside0 (Below w.heap.size w ((((w100.setCell ⟨gb701, 0, none⟩ (.slice Ao101 t714.length co101)).setCell ⟨gb701, 1, none⟩ (.slice Ao103 t717.length co103)).setCell ⟨gb701, 2, none⟩ (.int .u64 t720)).setCell ⟨gb701, 3, none⟩ (.slice Ao104 t721.length co104))) := ⟨beT_⟩
    (try clear HO0_0)
    (try clear HO0_1)
    (try clear HO0_3)
    (try clear HO716)
    (try clear HO719)
    (try clear HO723)
    (try clear BK697)
    (try clear BK698)
    (try clear BK701)
    (try clear HB)
    generalize ((((w100.setCell ⟨gb701, 0, none⟩ (.slice Ao101 t714.length co101)).setCell ⟨gb701, 1, none⟩ (.slice Ao103 t717.length co103)).setCell ⟨gb701, 2, none⟩ (.int .u64 t720)).setCell ⟨gb701, 3, none⟩ (.slice Ao104 t721.length co104)) = w105 at n0_ n1_ n2_ n3_ n4_ n5_ n6_ n7_ n8_ n9_ ⊢
    have HO0_0 := n0_
    have HO0_1 := n1_
    have HO0_3 := n2_
    have HO716 := n3_
    have HO719 := n4_
    have HO723 := n5_
    have BK697 := n6_
    have BK698 := n7_
    have BK701 := n8_
    have HB := n9_
    clear n0_ n1_ n2_ n3_ n4_ n5_ n6_ n7_ n8_ n9_
    replace HO0_0 := Aside0.mk (Kd.V_drew HO0_0.out)
    replace HO0_1 := Aside0.mk (Kd.V_drew HO0_1.out)
    replace HO0_3 := Aside0.mk (Kd.V_drew HO0_3.out)
    replace HO716 := Aside0.mk (Kd.V_drew HO716.out)
    replace HO719 := Aside0.mk (Kd.V_drew HO719.out)
    replace HO723 := Aside0.mk (Kd.V_drew HO723.out)
    replace BK697 := Aside0.mk (blk_drew BK697.out)
    replace BK698 := Aside0.mk (blk_drew BK698.out)
    replace BK701 := Aside0.mk (blk_drew BK701.out)
    replace HB := Aside0.mk (below_drew1 HB.out)
    refine start_ (n := 5) (S := fun w' => w'.cell? ⟨gb697, 0, none⟩ = some (.slice A0_0 l0_0.length c0_0) ∧ w'.cell? ⟨gb697, 1, none⟩ = some (.slice A0_1 l0_1.length c0_1) ∧ w'.cell? ⟨gb697, 2, none⟩ = some (.int .u64 a0_2) ∧ w'.cell? ⟨gb697, 3, none⟩ = some (.slice A0_3 l0_3.length c0_3) ∧ w'.cell? ⟨gb697, 4, none⟩ = some (.int .u32 a0_4) ∧ w'.cell? ⟨gb697, 5, none⟩ = some (.int .u32 a0_5)) (ds := []) (mb_ 5 0) (by kernel_rfl) rfl rfl ⟨(blk_cell BK697.out 0).trans rfl, (blk_cell BK697.out 1).trans rfl, (blk_cell BK697.out 2).trans rfl, (blk_cell BK697.out 3).trans rfl, (blk_cell BK697.out 4).trans rfl, (blk_cell BK697.out 5).trans rfl⟩ (fun hHeld => ?_)
    generalize w105.drew = w106 at HO0_0 HO0_1 HO0_3 HO716 HO719 HO723 BK697 BK698 BK701 HB hHeld ⊢
    refine pure_ (i := 1) (N := some 66) (v := ?_) (a' := ?_) (mb_ 5 2) rfl rfl (by kernel_rfl) (fun _ _ _ h => h) (Or.inl ⟨by rfl, ?_⟩) ?_ ?_
    rotate_left
    · intro w'
      go_simp
      with_reducible rfl
    rotate_left
    · simp only [Act.put, List.setIfInBounds_toArray, List.set_cons_zero, List.set_cons_succ, i64_w, i32_w]
      rfl
    refine take_ (i := 0) (N := some 65) (v := ?_) (a' := ?_) (mb_ 5 3) rfl rfl (by kernel_rfl) (fun _ _ _ h => h) (Or.inl ⟨by rfl, ?_⟩) hHeld ?_ ?_
    rotate_left
    · rintro w' ⟨s0, s1, s2, s3, s4, s5⟩
      go_simp
      with_reducible rfl
    rotate_left
    · simp only [Act.put, List.setIfInBounds_toArray, List.set_cons_zero, List.set_cons_succ, i64_w, i32_w]
      rfl
    refine take_ (i := 2) (N := some 67) (v := ?_) (a' := ?_) (mb_ 5 7) rfl rfl (by kernel_rfl) (fun _ _ _ h => h) (Or.inl ⟨by rfl, ?_⟩) hHeld ?_ ?_
    rotate_left
    · rintro w' ⟨s0, s1, s2, s3, s4, s5⟩
      go_simp
      with_reducible rfl
    rotate_left
    · simp only [Act.put, List.setIfInBounds_toArray, List.set_cons_zero, List.set_cons_succ, i64_w, i32_w]
      rfl
    refine one_ (i := 3) (N := none) (mb_ 5 15) rfl rfl (by kernel_rfl) (by decide) (fun K hK => ?_)
    have hs107 : w106.cell? ⟨gb698, 0, none⟩ = some (.slice none 0 0) := (blk_cell BK698.out 0).trans rfl
    have hfs107 := blk_frozen BK698.out 0
    have hns107_0 := NB697_698.out
    have hns107_2 := NB701_698.out
    have hms107_0 := NB698_697.out
    have hms107_2 := NB698_701.out
    have hs108 : w106.cell? ⟨gb698, 1, none⟩ = some (.slice none 0 0) := (blk_cell BK698.out 1).trans rfl
    have hfs108 := blk_frozen BK698.out 1
    have hns108_0 := NB697_698.out
    have hns108_2 := NB701_698.out
    have hms108_0 := NB698_697.out
    have hms108_2 := NB698_701.out
    have hs109 : w106.cell? ⟨gb698, 2, none⟩ = some (.int .u64 0) := (blk_cell BK698.out 2).trans rfl
    have hfs109 := blk_frozen BK698.out 2
    have hns109_0 := NB697_698.out
    have hns109_2 := NB701_698.out
    have hms109_0 := NB698_697.out
    have hms109_2 := NB698_701.out
    have hs110 : w106.cell? ⟨gb698, 3, none⟩ = some (.slice none 0 0) := (blk_cell BK698.out 3).trans rfl
    have hfs110 := blk_frozen BK698.out 3
    have hns110_0 := NB697_698.out
    have hns110_2 := NB701_698.out
    have hms110_0 := NB698_697.out
    have hms110_2 := NB698_701.out
    have hs111 : w106.cell? ⟨gb698, 4, none⟩ = some (.int .u32 0) := (blk_cell BK698.out 4).trans rfl
    have hfs111 := blk_frozen BK698.out 4
    have hns111_0 := NB697_698.out
    have hns111_2 := NB701_698.out
    have hms111_0 := NB698_697.out
    have hms111_2 := NB698_701.out
    have hs112 : w106.cell? ⟨gb698, 5, none⟩ = some (.int .u32 0) := (blk_cell BK698.out 5).trans rfl
    have hfs112 := blk_frozen BK698.out 5
    have hns112_0 := NB697_698.out
    have hns112_2 := NB701_698.out
    have hms112_0 := NB698_697.out
    have hms112_2 := NB698_701.out
    refine skip_ (w1 := ?_) (by rfl) rfl ?_ ?_
    rotate_left
    · go_simp
      rfl
    refine hK.out _ _ ⟨((cell_far (p := ⟨gb698, _, none⟩) NB697_698.out _).trans (((cell_far (p := ⟨gb698, _, none⟩) NB697_698.out _).trans (((cell_far (p := ⟨gb698, _, none⟩) NB697_698.out _).trans (((cell_far (p := ⟨gb698, _, none⟩) NB697_698.out _).trans (((cell_far (p := ⟨gb698, _, none⟩) NB697_698.out _).trans (((cell_far (p := ⟨gb698, _, none⟩) NB697_698.out _).trans (hHeld.1)))))))))))), ((cell_far (p := ⟨gb698, _, none⟩) NB697_698.out _).trans (((cell_far (p := ⟨gb698, _, none⟩) NB697_698.out _).trans (((cell_far (p := ⟨gb698, _, none⟩) NB697_698.out _).trans (((cell_far (p := ⟨gb698, _, none⟩) NB697_698.out _).trans (((cell_far (p := ⟨gb698, _, none⟩) NB697_698.out _).trans (((cell_far (p := ⟨gb698, _, none⟩) NB697_698.out _).trans (hHeld.2.1)))))))))))), ((cell_far (p := ⟨gb698, _, none⟩) NB697_698.out _).trans (((cell_far (p := ⟨gb698, _, none⟩) NB697_698.out _).trans (((cell_far (p := ⟨gb698, _, none⟩) NB697_698.out _).trans (((cell_far (p := ⟨gb698, _, none⟩) NB697_698.out _).trans (((cell_far (p := ⟨gb698, _, none⟩) NB697_698.out _).trans (((cell_far (p := ⟨gb698, _, none⟩) NB697_698.out _).trans (hHeld.2.2.1)))))))))))), ((cell_far (p := ⟨gb698, _, none⟩) NB697_698.out _).trans (((cell_far (p := ⟨gb698, _, none⟩) NB697_698.out _).trans (((cell_far (p := ⟨gb698, _, none⟩) NB697_698.out _).trans (((cell_far (p := ⟨gb698, _, none⟩) NB697_698.out _).trans (((cell_far (p := ⟨gb698, _, none⟩) NB697_698.out _).trans (((cell_far (p := ⟨gb698, _, none⟩) NB697_698.out _).trans (hHeld.2.2.2.1)))))))))))), ((cell_far (p := ⟨gb698, _, none⟩) NB697_698.out _).trans (((cell_far (p := ⟨gb698, _, none⟩) NB697_698.out _).trans (((cell_far (p := ⟨gb698, _, none⟩) NB697_698.out _).trans (((cell_far (p := ⟨gb698, _, none⟩) NB697_698.out _).trans (((cell_far (p := ⟨gb698, _, none⟩) NB697_698.out _).trans (((cell_far (p := ⟨gb698, _, none⟩) NB697_698.out _).trans (hHeld.2.2.2.2.1)))))))))))), ((cell_far (p := ⟨gb698, _, none⟩) NB697_698.out _).trans (((cell_far (p := ⟨gb698, _, none⟩) NB697_698.out _).trans (((cell_far (p := ⟨gb698, _, none⟩) NB697_698.out _).trans (((cell_far (p := ⟨gb698, _, none⟩) NB697_698.out _).trans (((cell_far (p := ⟨gb698, _, none⟩) NB697_698.out _).trans (((cell_far (p := ⟨gb698, _, none⟩) NB697_698.out _).trans (hHeld.2.2.2.2.2))))))))))))⟩ (fun hHeld => ?_)
    clear hK K
    refine pure_ (i := 4) (N := some 5) (v := ?_) (a' := ?_) (mb_ 5 31) rfl rfl (by kernel_rfl) (fun _ _ _ h => h) (Or.inl ⟨by rfl, ?_⟩) ?_ ?_
    rotate_left
    · intro w'
      go_simp
      with_reducible rfl
    rotate_left
    · simp only [Act.put, List.setIfInBounds_toArray, List.set_cons_zero, List.set_cons_succ, i64_w, i32_w]
      rfl
    refine done_ (by kernel_rfl) ?_
    try go_wp2
    refine bodyPost_ret (results_ct rfl _ _ gb698 63 #[.slice A0_0 l0_0.length c0_0, .slice A0_1 l0_1.length c0_1, .int .u64 a0_2, .slice A0_3 l0_3.length c0_3, .int .u32 a0_4, .int .u32 a0_5] (0, 0) _ rfl (kP_ BK698.out) Try.underlying63 rfl (by kernel_rfl)) rfl ?_
    exact ⟨_, _, _, r3_, (vF_ HO0_0.out), (vF_ HO0_1.out), (vF_ HO0_3.out), beT_⟩
  rw [if_neg c70] at H
  have c70b0 : decide (t700 < t699) = false := decide_eq_false c70
  clear c70
  by_cases c113 : 0 = 0
  · rw [if_pos c113] at H
    have c113b0 : (0 == 0) = true := beq_iff_eq.mpr c113
    have c113b1 : (0 != 0) = false := bne_eq_false_iff_eq.mpr c113
    clear c113
    simp only [Option.some.injEq, Prod.mk.injEq] at H
    obtain ⟨rfl, rfl, rfl, rfl, rfl, rfl, rfl⟩ := H
    go_enter Try.func34, Try.ntmps34
    go_wp2_with (first | ((with_reducible refine gate_dst (N := 2) rfl ?_); refine bE_ 2 #[.slice A0_0 l0_0.length c0_0, .slice A0_1 l0_1.length c0_1, .int .u64 a0_2, .slice A0_3 l0_3.length c0_3, .int .u32 a0_4, .int .u32 a0_5] 63 ?_; intro gb697 hg w114 hbox hb; have BK697 := Aside0.mk hbox; have GW697 := geT_ w.heap.size hg; have GE697 := geT_ w.heap.size hg; replace HO0_0 := vE_ HO0_0.out hg hb; replace HO0_1 := vE_ HO0_1.out hg hb; replace HO0_3 := vE_ HO0_3.out hg hb; replace HB := hB_ hb; clear hb hbox hg) | ((with_reducible refine gate_dst (N := 4) rfl ?_); refine bE_ 4 #[.slice none 0 0, .slice none 0 0, .int .u64 0, .slice none 0 0, .int .u32 0, .int .u32 0] 63 ?_; intro gb698 hg w115 hbox hb; have BK698 := Aside0.mk hbox; have GW698 := geT_ w.heap.size hg; have GE698 := geT_ w.heap.size hg; have NB697_698 := nlT_ BK697.out hg; have NB698_697 := ngT_ BK697.out hg; replace HO0_0 := vE_ HO0_0.out hg hb; replace HO0_1 := vE_ HO0_1.out hg hb; replace HO0_3 := vE_ HO0_3.out hg hb; replace BK697 := kB_ BK697 hb; replace HB := hB_ hb; clear hb hbox hg; have hnb116 := NB697_698.out; have hnc116 := NB698_697.out; obtain ⟨hcz117_0, hcz117_1, hcz117_2, hcz117_3, hcz117_4, hcz117_5, hfz117_0, hfz117_1, hfz117_2, hfz117_3, hfz117_4, hfz117_5⟩ := b6_ BK697.out) | ((with_reducible refine gate_callee (f := 62) rfl ?_); refine gL_ (some 12) Try.func62 #[.int .u32 a0_5] ?_; (with_reducible refine (gmap_count.calls a0_5 t699 _ A3.out).mono ?_); rintro e w' ⟨rfl, ⟨nd, rfl⟩⟩; refine ⟨_, rfl, ?_⟩; (try (rw [drewN_self w115]; generalize hq_ : World.drewN w115 _ = w115; replace HO0_0 : Aside0 (Kd.V k83 83 w115 w.heap.size (fun k_ => ((P0_0_ k_ ∨ P0_1_ k_ ∨ P0_3_ k_) ∨ w.heap.size ≤ k_) ∧ k_ ≠ gb697 ∧ k_ ≠ gb698) (.slice A0_0 l0_0.length c0_0) l0_0) := ⟨by rw [← hq_]; exact (vM_ HO0_0.out)⟩; replace HO0_1 : Aside0 (Kd.V k88 88 w115 w.heap.size (fun k_ => ((P0_0_ k_ ∨ P0_1_ k_ ∨ P0_3_ k_) ∨ w.heap.size ≤ k_) ∧ k_ ≠ gb697 ∧ k_ ≠ gb698) (.slice A0_1 l0_1.length c0_1) l0_1) := ⟨by rw [← hq_]; exact (vM_ HO0_1.out)⟩; replace HO0_3 : Aside0 (Kd.V k41 41 w115 w.heap.size (fun k_ => ((P0_0_ k_ ∨ P0_1_ k_ ∨ P0_3_ k_) ∨ w.heap.size ≤ k_) ∧ k_ ≠ gb697 ∧ k_ ≠ gb698) (.slice A0_3 l0_3.length c0_3) l0_3) := ⟨by rw [← hq_]; exact (vM_ HO0_3.out)⟩; replace BK697 : Aside0 (w115.heap[gb697]? = some (.cells #[.slice A0_0 l0_0.length c0_0, .slice A0_1 l0_1.length c0_1, .int .u64 a0_2, .slice A0_3 l0_3.length c0_3, .int .u32 a0_4, .int .u32 a0_5] 63 (0, 0))) := ⟨by rw [← hq_]; exact (bT_ BK697.out)⟩; replace BK698 : Aside0 (w115.heap[gb698]? = some (.cells #[.slice none 0 0, .slice none 0 0, .int .u64 0, .slice none 0 0, .int .u32 0, .int .u32 0] 63 (0, 0))) := ⟨by rw [← hq_]; exact (bT_ BK698.out)⟩; replace HB : Aside0 (Below w.heap.size w w115) := ⟨by rw [← hq_]; exact beT_⟩; clear hq_; have hcy697_0 : w115.cell? ⟨gb697, 0, none⟩ = some (.slice A0_0 l0_0.length c0_0) := (blk_cell BK697.out 0).trans rfl; have hcy697_1 : w115.cell? ⟨gb697, 1, none⟩ = some (.slice A0_1 l0_1.length c0_1) := (blk_cell BK697.out 1).trans rfl; have hcy697_2 : w115.cell? ⟨gb697, 2, none⟩ = some (.int .u64 a0_2) := (blk_cell BK697.out 2).trans rfl; have hcy697_3 : w115.cell? ⟨gb697, 3, none⟩ = some (.slice A0_3 l0_3.length c0_3) := (blk_cell BK697.out 3).trans rfl; have hcy697_4 : w115.cell? ⟨gb697, 4, none⟩ = some (.int .u32 a0_4) := (blk_cell BK697.out 4).trans rfl; have hcy697_5 : w115.cell? ⟨gb697, 5, none⟩ = some (.int .u32 a0_5) := (blk_cell BK697.out 5).trans rfl; have hcy698_0 : w115.cell? ⟨gb698, 0, none⟩ = some (.slice none 0 0) := (blk_cell BK698.out 0).trans rfl; have hcy698_1 : w115.cell? ⟨gb698, 1, none⟩ = some (.slice none 0 0) := (blk_cell BK698.out 1).trans rfl; have hcy698_2 : w115.cell? ⟨gb698, 2, none⟩ = some (.int .u64 0) := (blk_cell BK698.out 2).trans rfl; have hcy698_3 : w115.cell? ⟨gb698, 3, none⟩ = some (.slice none 0 0) := (blk_cell BK698.out 3).trans rfl; have hcy698_4 : w115.cell? ⟨gb698, 4, none⟩ = some (.int .u32 0) := (blk_cell BK698.out 4).trans rfl; have hcy698_5 : w115.cell? ⟨gb698, 5, none⟩ = some (.int .u32 0) := (blk_cell BK698.out 5).trans rfl))) | ((with_reducible refine gate_callee (f := 62) rfl ?_); refine gL_ (some 14) Try.func62 #[.int .u32 a1] ?_; (with_reducible refine (gmap_count.calls a1 t700 _ A4.out).mono ?_); rintro e w' ⟨rfl, ⟨nd, rfl⟩⟩; refine ⟨_, rfl, ?_⟩; (try (rw [drewN_self w115]; generalize hq_ : World.drewN w115 _ = w115; replace HO0_0 : Aside0 (Kd.V k83 83 w115 w.heap.size (fun k_ => ((P0_0_ k_ ∨ P0_1_ k_ ∨ P0_3_ k_) ∨ w.heap.size ≤ k_) ∧ k_ ≠ gb697 ∧ k_ ≠ gb698) (.slice A0_0 l0_0.length c0_0) l0_0) := ⟨by rw [← hq_]; exact (vM_ HO0_0.out)⟩; replace HO0_1 : Aside0 (Kd.V k88 88 w115 w.heap.size (fun k_ => ((P0_0_ k_ ∨ P0_1_ k_ ∨ P0_3_ k_) ∨ w.heap.size ≤ k_) ∧ k_ ≠ gb697 ∧ k_ ≠ gb698) (.slice A0_1 l0_1.length c0_1) l0_1) := ⟨by rw [← hq_]; exact (vM_ HO0_1.out)⟩; replace HO0_3 : Aside0 (Kd.V k41 41 w115 w.heap.size (fun k_ => ((P0_0_ k_ ∨ P0_1_ k_ ∨ P0_3_ k_) ∨ w.heap.size ≤ k_) ∧ k_ ≠ gb697 ∧ k_ ≠ gb698) (.slice A0_3 l0_3.length c0_3) l0_3) := ⟨by rw [← hq_]; exact (vM_ HO0_3.out)⟩; replace BK697 : Aside0 (w115.heap[gb697]? = some (.cells #[.slice A0_0 l0_0.length c0_0, .slice A0_1 l0_1.length c0_1, .int .u64 a0_2, .slice A0_3 l0_3.length c0_3, .int .u32 a0_4, .int .u32 a0_5] 63 (0, 0))) := ⟨by rw [← hq_]; exact (bT_ BK697.out)⟩; replace BK698 : Aside0 (w115.heap[gb698]? = some (.cells #[.slice none 0 0, .slice none 0 0, .int .u64 0, .slice none 0 0, .int .u32 0, .int .u32 0] 63 (0, 0))) := ⟨by rw [← hq_]; exact (bT_ BK698.out)⟩; replace HB : Aside0 (Below w.heap.size w w115) := ⟨by rw [← hq_]; exact beT_⟩; clear hq_; have hcy697_0 : w115.cell? ⟨gb697, 0, none⟩ = some (.slice A0_0 l0_0.length c0_0) := (blk_cell BK697.out 0).trans rfl; have hcy697_1 : w115.cell? ⟨gb697, 1, none⟩ = some (.slice A0_1 l0_1.length c0_1) := (blk_cell BK697.out 1).trans rfl; have hcy697_2 : w115.cell? ⟨gb697, 2, none⟩ = some (.int .u64 a0_2) := (blk_cell BK697.out 2).trans rfl; have hcy697_3 : w115.cell? ⟨gb697, 3, none⟩ = some (.slice A0_3 l0_3.length c0_3) := (blk_cell BK697.out 3).trans rfl; have hcy697_4 : w115.cell? ⟨gb697, 4, none⟩ = some (.int .u32 a0_4) := (blk_cell BK697.out 4).trans rfl; have hcy697_5 : w115.cell? ⟨gb697, 5, none⟩ = some (.int .u32 a0_5) := (blk_cell BK697.out 5).trans rfl; have hcy698_0 : w115.cell? ⟨gb698, 0, none⟩ = some (.slice none 0 0) := (blk_cell BK698.out 0).trans rfl; have hcy698_1 : w115.cell? ⟨gb698, 1, none⟩ = some (.slice none 0 0) := (blk_cell BK698.out 1).trans rfl; have hcy698_2 : w115.cell? ⟨gb698, 2, none⟩ = some (.int .u64 0) := (blk_cell BK698.out 2).trans rfl; have hcy698_3 : w115.cell? ⟨gb698, 3, none⟩ = some (.slice none 0 0) := (blk_cell BK698.out 3).trans rfl; have hcy698_4 : w115.cell? ⟨gb698, 4, none⟩ = some (.int .u32 0) := (blk_cell BK698.out 4).trans rfl; have hcy698_5 : w115.cell? ⟨gb698, 5, none⟩ = some (.int .u32 0) := (blk_cell BK698.out 5).trans rfl))) | ((with_reducible refine gate_dst (N := 8) rfl ?_); refine bE_ 8 #[.slice none 0 0, .slice none 0 0, .int .u64 0, .slice none 0 0] 29 ?_; intro gb701 hg w118 hbox hb; have BK701 := Aside0.mk hbox; have GW701 := geT_ w.heap.size hg; have GE701 := geT_ w.heap.size hg; have NB697_701 := nlT_ BK697.out hg; have NB701_697 := ngT_ BK697.out hg; have NB698_701 := nlT_ BK698.out hg; have NB701_698 := ngT_ BK698.out hg; replace HO0_0 := vE_ HO0_0.out hg hb; replace HO0_1 := vE_ HO0_1.out hg hb; replace HO0_3 := vE_ HO0_3.out hg hb; replace BK697 := kB_ BK697 hb; replace BK698 := kB_ BK698 hb; replace HB := hB_ hb; clear hb hbox hg; have hnb119 := NB701_697.out; have hnc119 := NB697_701.out; have hnb120 := NB701_698.out; have hnc120 := NB698_701.out; obtain ⟨hcz121_0, hcz121_1, hcz121_2, hcz121_3, hfz121_0, hfz121_1, hfz121_2, hfz121_3⟩ := b4_ BK701.out; obtain ⟨hcz122_0, hcz122_1, hcz122_2, hcz122_3, hcz122_4, hcz122_5, hfz122_0, hfz122_1, hfz122_2, hfz122_3, hfz122_4, hfz122_5⟩ := b6_ BK697.out; obtain ⟨hcz123_0, hcz123_1, hcz123_2, hcz123_3, hcz123_4, hcz123_5, hfz123_0, hfz123_1, hfz123_2, hfz123_3, hfz123_4, hfz123_5⟩ := b6_ BK698.out))
    refine bodyPost_ret (results_ct rfl _ _ gb698 63 #[.slice A0_0 l0_0.length c0_0, .slice A0_1 l0_1.length c0_1, .int .u64 a0_2, .slice A0_3 l0_3.length c0_3, .int .u32 a0_4, .int .u32 a1] (0, 0) _ rfl (kP_ BK698.out) Try.underlying63 rfl (by kernel_rfl)) rfl ?_
    exact ⟨_, _, _, r3_, (vF_ HO0_0.out), (vF_ HO0_1.out), (vF_ HO0_3.out), beT_⟩
  exact absurd rfl c113
end Go.Proofs.Ytgkjdpdmmlalcaa.F
end
