import Derived.Test.YtjhfglpgpicmiaaVZF0
import Derived.Test.YtjhfglpgpicmiaaVA5
import Derived.Test.YtjhfglpgpicmiaaVA11
import Derived.Test.YtjhfglpgpicmiaaVA13FFerryref03Unmap
import Derived.Test.YtjhfglpgpicmiaaVA15FFerryref03Clear
import Derived.Test.YtjhfglpgpicmiaaVA16
import Derived.Test.YtjhfglpgpicmiaaVA24
section
namespace Go.Proofs.Ytjhfglpgpicmiaa.F
open Go.RowKit Go.Proofs.YtjhfglpgpicmiaaW.PrintWords Go.Proofs.YtjhfglpgpicmiaaW.PrintLast Go.Proofs.YtjhfglpgpicmiaaW.PrintMore
attribute [local go_sem] max2_int min2_int max_two min_two max_three min_three max_four min_four
attribute [local go_sem] cell_twice
set_option linter.unusedVariables false
set_option linter.unusedSimpArgs false

def ferryref04_Unmap.l0 : Nat → Int → List (S55) → List (S60) → Int → List (S39) → List (S55) → List (S60) → Int → List (S39) → Option ((List (S55)) × (List (S60)) × Int × (List (S39)) × Int)
  | 0, _, _, _, _, _, _, _, _, _ => none
  | k + 1, x9, x403000, x403001, x403002, x403003, x406000, x406001, x406002, x406003 => if x9 < (x406003.length : Int) then (if 0 ≤ x9 then ((ferryref04_hostPage.f x403000 x403001 x403002 x403003 ((rd_T39 x406003 x9).f0)).bind fun t417 => ((ferryref04_used.f k x403000 x403001 x403002 x403003 t417).bind fun t418 => (if t418 = true then (ferryref04_Unmap.l0 k (wrap64 (x9 + 1)) x403000 x403001 x403002 x403003 x406000 x406001 x406002 x406003) else ((ferryref03_Unmap.f k x403000 x403001 t417 1).bind fun bt419 => (ferryref04_Unmap.l0 k (wrap64 (x9 + 1)) bt419.1 bt419.2.1 x403002 x403003 x406000 x406001 x406002 x406003))))) else (none)) else (some (x403000, x403001, x403002, x403003, 0))
def ferryref04_Unmap.f (k : Nat) (l0_0 : List (S55)) (l0_1 : List (S60)) (a0_2 : Int) (l0_3 : List (S39)) (a1 : Int) (a2 : Int) : Option ((List (S55)) × (List (S60)) × Int × (List (S39)) × Int) := (ferryref04_wrong.f a1 a2 0).bind fun t404 => (if t404 = true then (some (l0_0, l0_1, a0_2, l0_3, 22)) else ((ferryref04_without.f k l0_0 l0_1 a0_2 l0_3 a1 a2).bind fun t406 => ((ferryref04_Place.f l0_0 l0_1 a0_2 t406 ((a1 * 4096) % 4294967296)).bind fun t409 => ((ferryref03_Clear.f k l0_0 l0_1 t409 (IntKind.u64.wrap ((IntKind.u64.wrap (a2)) * 4096))).bind fun bt410 => (ferryref04_Unmap.l0 k 0 bt410.1 bt410.2 a0_2 t406 l0_0 l0_1 a0_2 l0_3)))))
def ferryref04_Unmap.T5 : Bool × List (List Nat × List Nat) := (true, [([], []), ([0], [0]), ([], []), ([], []), ([3], [3]), ([2, 4], [2, 4]), ([], []), ([6], [6]), ([7], [7]), ([1, 5, 8, 5], [1, 5, 8]), ([0, 1, 2, 3, 4, 5, 6, 7, 8, 9], []), ([10, 9, 9, 0, 1, 2, 3, 4, 5, 6, 7, 8, 9], [9, 10])])
def ferryref04_Unmap.B5 : List Nat := [0, 1, 0, 0, 8, 28, 0, 64, 192, 511, 1023, 2047]
theorem ferryref04_Unmap.tab5 : rtab .any (opsOf Try.f18 5) = ferryref04_Unmap.T5 := by kernel_rfl
theorem ferryref04_Unmap.bits5 : waitsOk ferryref04_Unmap.T5.2 ferryref04_Unmap.B5 = true := by kernel_rfl
def ferryref04_Unmap.T9 : Bool × List (List Nat × List Nat) := (true, [([], []), ([], []), ([1], [1]), ([], []), ([2, 3], [2, 3]), ([4], [4]), ([5], [5]), ([0, 6], [0, 6]), ([7, 7, 0, 1, 2, 3, 4, 5, 6, 7], [7])])
def ferryref04_Unmap.B9 : List Nat := [0, 0, 2, 0, 14, 30, 62, 127, 255]
theorem ferryref04_Unmap.tab9 : rtab .any (opsOf Try.f18 9) = ferryref04_Unmap.T9 := by kernel_rfl
theorem ferryref04_Unmap.bits9 : waitsOk ferryref04_Unmap.T9.2 ferryref04_Unmap.B9 = true := by kernel_rfl
set_option maxHeartbeats 8000000 in
set_option maxRecDepth 100000 in
theorem ferryref04_Unmap.calls (k : Nat) (P0_0_ : Nat → Prop) (A0_0 : Option Addr) (c0_0 : Nat) (l0_0 : List (S55)) (P0_1_ : Nat → Prop) (A0_1 : Option Addr) (c0_1 : Nat) (l0_1 : List (S60)) (a0_2 : Int) (P0_3_ : Nat → Prop) (A0_3 : Option Addr) (c0_3 : Nat) (l0_3 : List (S39)) (a1 : Int) (a2 : Int) (r1 : List (S55)) (r2 : List (S60)) (r3 : Int) (r4 : List (S39)) (r5 : Int) (w : World) (hs0_0 : Kd.V k55 55 w w.heap.size (fun k_ => P0_0_ k_) (.slice A0_0 l0_0.length c0_0) l0_0) (hs0_1 : Kd.V k60 60 w w.heap.size (fun k_ => P0_1_ k_) (.slice A0_1 l0_1.length c0_1) l0_1) (hs0_3 : Kd.V k39 39 w w.heap.size (fun k_ => P0_3_ k_) (.slice A0_3 l0_3.length c0_3) l0_3) (h : ferryref04_Unmap.f k l0_0 l0_1 a0_2 l0_3 a1 a2 = some (r1, r2, r3, r4, r5)) :
    Calls Try.prog 18 #[.agg #[.slice A0_0 l0_0.length c0_0, .slice A0_1 l0_1.length c0_1, .int .u64 a0_2, .slice A0_3 l0_3.length c0_3], .int .u32 a1, .int .u32 a2] w fun e w' => ∃ v0_ v1_ v3_ : Value, e = .returned (.tuple #[.agg #[v0_, v1_, .int .u64 r3, v3_], .int .i64 r5]) ∧ Kd.V k55 55 w' w.heap.size (fun k_ => ((P0_0_ k_ ∨ P0_1_ k_ ∨ P0_3_ k_) ∨ w.heap.size ≤ k_)) v0_ r1 ∧ Kd.V k60 60 w' w.heap.size (fun k_ => ((P0_0_ k_ ∨ P0_1_ k_ ∨ P0_3_ k_) ∨ w.heap.size ≤ k_)) v1_ r2 ∧ Kd.V k39 39 w' w.heap.size (fun k_ => ((P0_0_ k_ ∨ P0_1_ k_ ∨ P0_3_ k_) ∨ w.heap.size ≤ k_)) v3_ r4 ∧ Below w.heap.size w w' := by
  have hu29 := Try.underlying29
  have hu25 := Try.underlying25
  have HO0_0 := Aside0.mk (show Kd.V k55 55 w w.heap.size (fun k_ => ((P0_0_ k_ ∨ P0_1_ k_ ∨ P0_3_ k_) ∨ w.heap.size ≤ k_)) (.slice A0_0 l0_0.length c0_0) l0_0 from Kd.V_mono hs0_0 (fun k_ hk => .inl (.inl hk)))
  have HO0_1 := Aside0.mk (show Kd.V k60 60 w w.heap.size (fun k_ => ((P0_0_ k_ ∨ P0_1_ k_ ∨ P0_3_ k_) ∨ w.heap.size ≤ k_)) (.slice A0_1 l0_1.length c0_1) l0_1 from Kd.V_mono hs0_1 (fun k_ hk => .inl (.inr (.inl hk))))
  have HO0_3 := Aside0.mk (show Kd.V k39 39 w w.heap.size (fun k_ => ((P0_0_ k_ ∨ P0_1_ k_ ∨ P0_3_ k_) ∨ w.heap.size ≤ k_)) (.slice A0_3 l0_3.length c0_3) l0_3 from Kd.V_mono hs0_3 (fun k_ hk => .inl (.inr (.inr hk))))
  have HB := Aside0.mk (Below.refl w.heap.size w)
  have H : ((ferryref04_wrong.f a1 a2 0).bind fun t404 => (if t404 = true then (some (l0_0, l0_1, a0_2, l0_3, 22)) else ((ferryref04_without.f k l0_0 l0_1 a0_2 l0_3 a1 a2).bind fun t406 => ((ferryref04_Place.f l0_0 l0_1 a0_2 t406 ((a1 * 4096) % 4294967296)).bind fun t409 => ((ferryref03_Clear.f k l0_0 l0_1 t409 (IntKind.u64.wrap ((IntKind.u64.wrap (a2)) * 4096))).bind fun bt410 => (ferryref04_Unmap.l0 k 0 bt410.1 bt410.2 a0_2 t406 l0_0 l0_1 a0_2 l0_3)))))) = some (r1, r2, r3, r4, r5) := h
  clear h
  replace H := Option.bind_eq_some_iff.mp H
  obtain ⟨t404, A40, H⟩ := H
  have A4 := Aside0.mk A40
  clear A40
  by_cases c5 : t404 = true
  · subst c5
    replace H := hP_ H
    simp only [Option.some.injEq, Prod.mk.injEq] at H
    obtain ⟨rfl, rfl, rfl, rfl, rfl⟩ := H
    go_enter Try.func18, Try.ntmps18
    go_wp2_with (first | ((with_reducible refine gate_dst (N := 3) rfl ?_); refine bE_ 3 #[.slice A0_0 l0_0.length c0_0, .slice A0_1 l0_1.length c0_1, .int .u64 a0_2, .slice A0_3 l0_3.length c0_3] 29 ?_; intro gb402 hg w6 hbox hb; have BK402 := Aside0.mk hbox; have GW402 := geT_ w.heap.size hg; have GE402 := geT_ w.heap.size hg; replace HO0_0 := vE_ HO0_0.out hg hb; replace HO0_1 := vE_ HO0_1.out hg hb; replace HO0_3 := vE_ HO0_3.out hg hb; replace HB := hB_ hb; clear hb hbox hg) | ((with_reducible refine gate_dst (N := 6) rfl ?_); refine bE_ 6 #[.slice none 0 0, .slice none 0 0, .int .u64 0, .slice none 0 0] 29 ?_; intro gb403 hg w7 hbox hb; have BK403 := Aside0.mk hbox; have GW403 := geT_ w.heap.size hg; have GE403 := geT_ w.heap.size hg; have NB402_403 := nlT_ BK402.out hg; have NB403_402 := ngT_ BK402.out hg; replace HO0_0 := vE_ HO0_0.out hg hb; replace HO0_1 := vE_ HO0_1.out hg hb; replace HO0_3 := vE_ HO0_3.out hg hb; replace BK402 := kB_ BK402 hb; replace HB := hB_ hb; clear hb hbox hg) | ((with_reducible refine gate_callee (f := 41) rfl ?_); refine gL_ (some 13) Try.func41 #[.int .u32 a1, .int .u32 a2, .int .i64 0] ?_; (with_reducible refine (ferryref04_wrong.calls a1 a2 0 true _ A4.out).mono ?_); rintro e w' ⟨rfl, ⟨nd, rfl⟩⟩; refine ⟨_, rfl, ?_⟩; (try (rw [drewN_self w7]; generalize hq_ : World.drewN w7 _ = w7; replace HO0_0 : Aside0 (Kd.V k55 55 w7 w.heap.size (fun k_ => ((P0_0_ k_ ∨ P0_1_ k_ ∨ P0_3_ k_) ∨ w.heap.size ≤ k_) ∧ k_ ≠ gb402 ∧ k_ ≠ gb403) (.slice A0_0 l0_0.length c0_0) l0_0) := ⟨by rw [← hq_]; exact (vM_ HO0_0.out)⟩; replace HO0_1 : Aside0 (Kd.V k60 60 w7 w.heap.size (fun k_ => ((P0_0_ k_ ∨ P0_1_ k_ ∨ P0_3_ k_) ∨ w.heap.size ≤ k_) ∧ k_ ≠ gb402 ∧ k_ ≠ gb403) (.slice A0_1 l0_1.length c0_1) l0_1) := ⟨by rw [← hq_]; exact (vM_ HO0_1.out)⟩; replace HO0_3 : Aside0 (Kd.V k39 39 w7 w.heap.size (fun k_ => ((P0_0_ k_ ∨ P0_1_ k_ ∨ P0_3_ k_) ∨ w.heap.size ≤ k_) ∧ k_ ≠ gb402 ∧ k_ ≠ gb403) (.slice A0_3 l0_3.length c0_3) l0_3) := ⟨by rw [← hq_]; exact (vM_ HO0_3.out)⟩; replace BK402 : Aside0 (w7.heap[gb402]? = some (.cells #[.slice A0_0 l0_0.length c0_0, .slice A0_1 l0_1.length c0_1, .int .u64 a0_2, .slice A0_3 l0_3.length c0_3] 29 (0, 0))) := ⟨by rw [← hq_]; exact (bT_ BK402.out)⟩; replace BK403 : Aside0 (w7.heap[gb403]? = some (.cells #[.slice none 0 0, .slice none 0 0, .int .u64 0, .slice none 0 0] 29 (0, 0))) := ⟨by rw [← hq_]; exact (bT_ BK403.out)⟩; replace HB : Aside0 (Below w.heap.size w w7) := ⟨by rw [← hq_]; exact beT_⟩; clear hq_)); have hnb8 := NB402_403.out; have hnc8 := NB403_402.out; obtain ⟨hcz9_0, hcz9_1, hcz9_2, hcz9_3, hfz9_0, hfz9_1, hfz9_2, hfz9_3⟩ := b4_ BK402.out; obtain ⟨hcz10_0, hcz10_1, hcz10_2, hcz10_3, hfz10_0, hfz10_1, hfz10_2, hfz10_3⟩ := b4_ BK403.out))
    refine bodyPost_ret (results_ct rfl _ _ gb403 29 #[.slice A0_0 l0_0.length c0_0, .slice A0_1 l0_1.length c0_1, .int .u64 a0_2, .slice A0_3 l0_3.length c0_3] (0, 0) _ rfl (kP_ BK403.out) Try.underlying29 rfl (by kernel_rfl)) rfl ?_
    exact ⟨_, _, _, r3_, (vF_ HO0_0.out), (vF_ HO0_1.out), (vF_ HO0_3.out), beT_⟩
  replace c5 := Bool.eq_false_iff.mpr c5
  subst c5
  replace H := hN_ H
  replace H := Option.bind_eq_some_iff.mp H
  obtain ⟨t406, A110, H⟩ := H
  have A11 := Aside0.mk A110
  clear A110
  replace H := Option.bind_eq_some_iff.mp H
  obtain ⟨t409, A120, H⟩ := H
  have A12 := Aside0.mk A120
  clear A120
  replace H := Option.bind_eq_some_iff.mp H
  obtain ⟨⟨t410, t413⟩, A130, H⟩ := H
  have A13 := Aside0.mk A130
  clear A130
  have H' := Aside0.mk H
  clear H
  go_enter Try.func18, Try.ntmps18
  try go_wp2_with (first | ((with_reducible refine gate_dst (N := 3) rfl ?_); refine bE_ 3 #[.slice A0_0 l0_0.length c0_0, .slice A0_1 l0_1.length c0_1, .int .u64 a0_2, .slice A0_3 l0_3.length c0_3] 29 ?_; intro gb402 hg w14 hbox hb; have BK402 := Aside0.mk hbox; have GW402 := geT_ w.heap.size hg; have GE402 := geT_ w.heap.size hg; replace HO0_0 := vE_ HO0_0.out hg hb; replace HO0_1 := vE_ HO0_1.out hg hb; replace HO0_3 := vE_ HO0_3.out hg hb; replace HB := hB_ hb; clear hb hbox hg) | ((with_reducible refine gate_dst (N := 6) rfl ?_); refine bE_ 6 #[.slice none 0 0, .slice none 0 0, .int .u64 0, .slice none 0 0] 29 ?_; intro gb403 hg w15 hbox hb; have BK403 := Aside0.mk hbox; have GW403 := geT_ w.heap.size hg; have GE403 := geT_ w.heap.size hg; have NB402_403 := nlT_ BK402.out hg; have NB403_402 := ngT_ BK402.out hg; replace HO0_0 := vE_ HO0_0.out hg hb; replace HO0_1 := vE_ HO0_1.out hg hb; replace HO0_3 := vE_ HO0_3.out hg hb; replace BK402 := kB_ BK402 hb; replace HB := hB_ hb; clear hb hbox hg) | ((with_reducible refine gate_callee (f := 41) rfl ?_); refine gL_ (some 13) Try.func41 #[.int .u32 a1, .int .u32 a2, .int .i64 0] ?_; (with_reducible refine (ferryref04_wrong.calls a1 a2 0 false _ A4.out).mono ?_); rintro e w' ⟨rfl, ⟨nd, rfl⟩⟩; refine ⟨_, rfl, ?_⟩; (try (rw [drewN_self w15]; generalize hq_ : World.drewN w15 _ = w15; replace HO0_0 : Aside0 (Kd.V k55 55 w15 w.heap.size (fun k_ => ((P0_0_ k_ ∨ P0_1_ k_ ∨ P0_3_ k_) ∨ w.heap.size ≤ k_) ∧ k_ ≠ gb402 ∧ k_ ≠ gb403) (.slice A0_0 l0_0.length c0_0) l0_0) := ⟨by rw [← hq_]; exact (vM_ HO0_0.out)⟩; replace HO0_1 : Aside0 (Kd.V k60 60 w15 w.heap.size (fun k_ => ((P0_0_ k_ ∨ P0_1_ k_ ∨ P0_3_ k_) ∨ w.heap.size ≤ k_) ∧ k_ ≠ gb402 ∧ k_ ≠ gb403) (.slice A0_1 l0_1.length c0_1) l0_1) := ⟨by rw [← hq_]; exact (vM_ HO0_1.out)⟩; replace HO0_3 : Aside0 (Kd.V k39 39 w15 w.heap.size (fun k_ => ((P0_0_ k_ ∨ P0_1_ k_ ∨ P0_3_ k_) ∨ w.heap.size ≤ k_) ∧ k_ ≠ gb402 ∧ k_ ≠ gb403) (.slice A0_3 l0_3.length c0_3) l0_3) := ⟨by rw [← hq_]; exact (vM_ HO0_3.out)⟩; replace BK402 : Aside0 (w15.heap[gb402]? = some (.cells #[.slice A0_0 l0_0.length c0_0, .slice A0_1 l0_1.length c0_1, .int .u64 a0_2, .slice A0_3 l0_3.length c0_3] 29 (0, 0))) := ⟨by rw [← hq_]; exact (bT_ BK402.out)⟩; replace BK403 : Aside0 (w15.heap[gb403]? = some (.cells #[.slice none 0 0, .slice none 0 0, .int .u64 0, .slice none 0 0] 29 (0, 0))) := ⟨by rw [← hq_]; exact (bT_ BK403.out)⟩; replace HB : Aside0 (Below w.heap.size w w15) := ⟨by rw [← hq_]; exact beT_⟩; clear hq_)); have hnb16 := NB402_403.out; have hnc16 := NB403_402.out; obtain ⟨hcz17_0, hcz17_1, hcz17_2, hcz17_3, hfz17_0, hfz17_1, hfz17_2, hfz17_3⟩ := b4_ BK402.out) | ((with_reducible refine gate_dst (N := 8) rfl ?_); refine bE_ 8 #[.slice none 0 0, .slice none 0 0, .int .u64 0, .slice none 0 0] 29 ?_; intro gb405 hg w18 hbox hb; have BK405 := Aside0.mk hbox; have GW405 := geT_ w.heap.size hg; have GE405 := geT_ w.heap.size hg; have NB402_405 := nlT_ BK402.out hg; have NB405_402 := ngT_ BK402.out hg; have NB403_405 := nlT_ BK403.out hg; have NB405_403 := ngT_ BK403.out hg; replace HO0_0 := vE_ HO0_0.out hg hb; replace HO0_1 := vE_ HO0_1.out hg hb; replace HO0_3 := vE_ HO0_3.out hg hb; replace BK402 := kB_ BK402 hb; replace BK403 := kB_ BK403 hb; replace HB := hB_ hb; clear hb hbox hg; have hnb19 := NB405_402.out; have hnc19 := NB402_405.out; have hnb20 := NB405_403.out; have hnc20 := NB403_405.out; obtain ⟨hcz21_0, hcz21_1, hcz21_2, hcz21_3, hfz21_0, hfz21_1, hfz21_2, hfz21_3⟩ := b4_ BK405.out; obtain ⟨hcz22_0, hcz22_1, hcz22_2, hcz22_3, hfz22_0, hfz22_1, hfz22_2, hfz22_3⟩ := b4_ BK402.out) | ((with_reducible refine gate_callee (f := 42) rfl ?_); refine gL_ (some 19) Try.func42 #[.agg #[.slice A0_0 l0_0.length c0_0, .slice A0_1 l0_1.length c0_1, .int .u64 a0_2, .slice A0_3 l0_3.length c0_3], .int .u32 a1, .int .u32 a2] ?_; (with_reducible refine (ferryref04_without.calls k _ _ l0_0 _ _ l0_1 a0_2 _ _ l0_3 a1 a2 t406 _ ?side1 ?side2 ?side3 ?side4 ?side5 ?side6 A11.out).mono ?_); (case side1 => refine (Kd.V_reads' (e := 55) (base := w.heap.size) (ok := fun _ => True) (n := l0_0.length) (c := c0_0) ?_).2.2; exact (by (with_reducible repeat (first | apply Kd.V_alloc | apply Kd.V_drewN | apply Kd.V_drew)); exact (Kd.V_mono (Kd.V_far (p := ⟨gb405, 3, none⟩) (Kd.V_far (p := ⟨gb405, 2, none⟩) (Kd.V_far (p := ⟨gb405, 1, none⟩) (Kd.V_far (p := ⟨gb405, 0, none⟩) (Kd.V_mono HO0_0.out (fun k_ hk => (⟨hk, by first | exact hk.2 | exact hk.2.1 | exact hk.2.2| omega | grind⟩ : _ ∧ k_ ≠ gb405))) (fun _ hk => hk.2) (.slice A0_0 l0_0.length c0_0)) (fun _ hk => hk.2) (.slice A0_1 l0_1.length c0_1)) (fun _ hk => hk.2) (.int .u64 a0_2)) (fun _ hk => hk.2) (.slice A0_3 l0_3.length c0_3)) (fun _ _ => trivial)))); (case side2 => exact (Kd.V_reads' HO0_0.out).2.1); (case side3 => refine (Kd.V_reads' (e := 60) (base := w.heap.size) (ok := fun _ => True) (n := l0_1.length) (c := c0_1) ?_).2.2; exact (by (with_reducible repeat (first | apply Kd.V_alloc | apply Kd.V_drewN | apply Kd.V_drew)); exact (Kd.V_mono (Kd.V_far (p := ⟨gb405, 3, none⟩) (Kd.V_far (p := ⟨gb405, 2, none⟩) (Kd.V_far (p := ⟨gb405, 1, none⟩) (Kd.V_far (p := ⟨gb405, 0, none⟩) (Kd.V_mono HO0_1.out (fun k_ hk => (⟨hk, by first | exact hk.2 | exact hk.2.1 | exact hk.2.2| omega | grind⟩ : _ ∧ k_ ≠ gb405))) (fun _ hk => hk.2) (.slice A0_0 l0_0.length c0_0)) (fun _ hk => hk.2) (.slice A0_1 l0_1.length c0_1)) (fun _ hk => hk.2) (.int .u64 a0_2)) (fun _ hk => hk.2) (.slice A0_3 l0_3.length c0_3)) (fun _ _ => trivial)))); (case side4 => exact (Kd.V_reads' HO0_1.out).2.1); (case side5 => refine (Kd.V_reads' (e := 39) (base := w.heap.size) (ok := fun _ => True) (n := l0_3.length) (c := c0_3) ?_).2.2; exact (by (with_reducible repeat (first | apply Kd.V_alloc | apply Kd.V_drewN | apply Kd.V_drew)); exact (Kd.V_mono (Kd.V_far (p := ⟨gb405, 3, none⟩) (Kd.V_far (p := ⟨gb405, 2, none⟩) (Kd.V_far (p := ⟨gb405, 1, none⟩) (Kd.V_far (p := ⟨gb405, 0, none⟩) (Kd.V_mono HO0_3.out (fun k_ hk => (⟨hk, by first | exact hk.2 | exact hk.2.1 | exact hk.2.2| omega | grind⟩ : _ ∧ k_ ≠ gb405))) (fun _ hk => hk.2) (.slice A0_0 l0_0.length c0_0)) (fun _ hk => hk.2) (.slice A0_1 l0_1.length c0_1)) (fun _ hk => hk.2) (.int .u64 a0_2)) (fun _ hk => hk.2) (.slice A0_3 l0_3.length c0_3)) (fun _ _ => trivial)))); (case side6 => exact (Kd.V_reads' HO0_3.out).2.1); rintro e w23 ⟨v407, rfl, ho0, hb⟩; refine ⟨_, rfl, ?_⟩; have HO408 := Aside0.mk (Kd.R_lower (Kd.R_newM (M := fun k_ => (w.heap.size ≤ k_)) ho0 (below_size beT_) (fun k_ h_ => h_)) (below_size beT_)); replace HO0_0 := Aside0.mk (Kd.V_elder' (by (with_reducible repeat (first | apply Kd.V_alloc | apply Kd.V_drewN | apply Kd.V_drew)); exact (Kd.V_mono (Kd.V_far (p := ⟨gb405, 3, none⟩) (Kd.V_far (p := ⟨gb405, 2, none⟩) (Kd.V_far (p := ⟨gb405, 1, none⟩) (Kd.V_far (p := ⟨gb405, 0, none⟩) (Kd.V_mono HO0_0.out (fun k_ hk => (⟨hk, by first | exact hk.2 | exact hk.2.1 | exact hk.2.2| omega | grind⟩ : _ ∧ k_ ≠ gb405))) (fun _ hk => hk.2) (.slice A0_0 l0_0.length c0_0)) (fun _ hk => hk.2) (.slice A0_1 l0_1.length c0_1)) (fun _ hk => hk.2) (.int .u64 a0_2)) (fun _ hk => hk.2) (.slice A0_3 l0_3.length c0_3)) (fun _ h_ => h_.1))) (Kd.R_base ho0) hb); replace HO0_1 := Aside0.mk (Kd.V_elder' (by (with_reducible repeat (first | apply Kd.V_alloc | apply Kd.V_drewN | apply Kd.V_drew)); exact (Kd.V_mono (Kd.V_far (p := ⟨gb405, 3, none⟩) (Kd.V_far (p := ⟨gb405, 2, none⟩) (Kd.V_far (p := ⟨gb405, 1, none⟩) (Kd.V_far (p := ⟨gb405, 0, none⟩) (Kd.V_mono HO0_1.out (fun k_ hk => (⟨hk, by first | exact hk.2 | exact hk.2.1 | exact hk.2.2| omega | grind⟩ : _ ∧ k_ ≠ gb405))) (fun _ hk => hk.2) (.slice A0_0 l0_0.length c0_0)) (fun _ hk => hk.2) (.slice A0_1 l0_1.length c0_1)) (fun _ hk => hk.2) (.int .u64 a0_2)) (fun _ hk => hk.2) (.slice A0_3 l0_3.length c0_3)) (fun _ h_ => h_.1))) (Kd.R_base ho0) hb); replace HO0_3 := Aside0.mk (Kd.V_elder' (by (with_reducible repeat (first | apply Kd.V_alloc | apply Kd.V_drewN | apply Kd.V_drew)); exact (Kd.V_mono (Kd.V_far (p := ⟨gb405, 3, none⟩) (Kd.V_far (p := ⟨gb405, 2, none⟩) (Kd.V_far (p := ⟨gb405, 1, none⟩) (Kd.V_far (p := ⟨gb405, 0, none⟩) (Kd.V_mono HO0_3.out (fun k_ hk => (⟨hk, by first | exact hk.2 | exact hk.2.1 | exact hk.2.2| omega | grind⟩ : _ ∧ k_ ≠ gb405))) (fun _ hk => hk.2) (.slice A0_0 l0_0.length c0_0)) (fun _ hk => hk.2) (.slice A0_1 l0_1.length c0_1)) (fun _ hk => hk.2) (.int .u64 a0_2)) (fun _ hk => hk.2) (.slice A0_3 l0_3.length c0_3)) (fun _ h_ => h_.1))) (Kd.R_base ho0) hb); replace BK402 := kB_ BK402 hb; replace BK403 := kB_ BK403 hb; replace BK405 := Aside0.mk (blk_below (g := gb405) (o := .cells #[.slice A0_0 l0_0.length c0_0, .slice A0_1 l0_1.length c0_1, .int .u64 a0_2, .slice A0_3 l0_3.length c0_3] 29 (0, 0)) (kP_ BK405.out) hb); replace HB := hB_ hb; (try clear hb); (try clear hb2); (try clear hk); (try clear hi); (try clear ho0); obtain ⟨Ao24, co24, eo24⟩ := Kd.R_slice HO408.out; subst eo24; obtain ⟨hcz25_0, hcz25_1, hcz25_2, hcz25_3, hfz25_0, hfz25_1, hfz25_2, hfz25_3⟩ := b4_ BK402.out))
  have n0_ : Aside0 (Kd.V k55 55 (w23.setCell ⟨gb402, 3, none⟩ (.slice Ao24 t406.length co24)) w.heap.size (fun k_ => ((P0_0_ k_ ∨ P0_1_ k_ ∨ P0_3_ k_) ∨ w.heap.size ≤ k_) ∧ some k_ ≠ (.slice Ao24 t406.length co24 : Value).ownBlock ∧ k_ ≠ gb402 ∧ k_ ≠ gb403 ∧ k_ ≠ gb405) (.slice A0_0 l0_0.length c0_0) l0_0) := ⟨vF_ HO0_0.out⟩
  have n1_ : Aside0 (Kd.V k60 60 (w23.setCell ⟨gb402, 3, none⟩ (.slice Ao24 t406.length co24)) w.heap.size (fun k_ => ((P0_0_ k_ ∨ P0_1_ k_ ∨ P0_3_ k_) ∨ w.heap.size ≤ k_) ∧ some k_ ≠ (.slice Ao24 t406.length co24 : Value).ownBlock ∧ k_ ≠ gb402 ∧ k_ ≠ gb403 ∧ k_ ≠ gb405) (.slice A0_1 l0_1.length c0_1) l0_1) := ⟨vF_ HO0_1.out⟩
  have n2_ : Aside0 (Kd.V k39 39 (w23.setCell ⟨gb402, 3, none⟩ (.slice Ao24 t406.length co24)) w.heap.size (fun k_ => ((P0_0_ k_ ∨ P0_1_ k_ ∨ P0_3_ k_) ∨ w.heap.size ≤ k_) ∧ some k_ ≠ (.slice Ao24 t406.length co24 : Value).ownBlock ∧ k_ ≠ gb402 ∧ k_ ≠ gb403 ∧ k_ ≠ gb405) (.slice A0_3 l0_3.length c0_3) l0_3) := ⟨vF_ HO0_3.out⟩
  have n3_ : Aside0 (Kd.R k39 39 (w23.setCell ⟨gb402, 3, none⟩ (.slice Ao24 t406.length co24)) w.heap.size (fun k_ => (w.heap.size ≤ k_)) (.slice Ao24 t406.length co24) t406) := ⟨by (with_reducible repeat (first | apply Kd.R_alloc | apply Kd.R_drewN | apply Kd.R_drew)); exact Kd.R_mono (Kd.R_far (p := ⟨gb402, 3, none⟩) (Kd.R_types HO408.out BK402.out (by decide)) (fun _ hk => hk.2) (.slice Ao24 t406.length co24)) (fun _ hk => hk.1.1)⟩
  have n4_ : Aside0 ((w23.setCell ⟨gb402, 3, none⟩ (.slice Ao24 t406.length co24)).heap[gb402]? = some (.cells #[.slice A0_0 l0_0.length c0_0, .slice A0_1 l0_1.length c0_1, .int .u64 a0_2, .slice Ao24 t406.length co24] 29 (0, 0))) := ⟨kP_ BK402.out⟩
  have n5_ : Aside0 ((w23.setCell ⟨gb402, 3, none⟩ (.slice Ao24 t406.length co24)).heap[gb403]? = some (.cells #[.slice none 0 0, .slice none 0 0, .int .u64 0, .slice none 0 0] 29 (0, 0))) := ⟨bfT_ BK403.out⟩
  have n6_ : Aside0 ((w23.setCell ⟨gb402, 3, none⟩ (.slice Ao24 t406.length co24)).heap[gb405]? = some (.cells #[.slice A0_0 l0_0.length c0_0, .slice A0_1 l0_1.length c0_1, .int .u64 a0_2, .slice A0_3 l0_3.length c0_3] 29 (0, 0))) := ⟨bfT_ BK405.out⟩
  have n7_ : Aside0 (Below w.heap.size w (w23.setCell ⟨gb402, 3, none⟩ (.slice Ao24 t406.length co24))) := ⟨beT_⟩
  (try clear HO0_0)
  (try clear HO0_1)
  (try clear HO0_3)
  (try clear HO408)
  (try clear BK402)
  (try clear BK403)
  (try clear BK405)
  (try clear HB)
  generalize (w23.setCell ⟨gb402, 3, none⟩ (.slice Ao24 t406.length co24)) = w26 at n0_ n1_ n2_ n3_ n4_ n5_ n6_ n7_ ⊢
  have HO0_0 := n0_
  have HO0_1 := n1_
  have HO0_3 := n2_
  have HO408 := n3_
  have BK402 := n4_
  have BK403 := n5_
  have BK405 := n6_
  have HB := n7_
  clear n0_ n1_ n2_ n3_ n4_ n5_ n6_ n7_
  replace HO0_0 := Aside0.mk (Kd.V_drew HO0_0.out)
  replace HO0_1 := Aside0.mk (Kd.V_drew HO0_1.out)
  replace HO0_3 := Aside0.mk (Kd.V_drew HO0_3.out)
  replace HO408 := Aside0.mk (Kd.R_drew HO408.out)
  replace BK402 := Aside0.mk (blk_drew BK402.out)
  replace BK403 := Aside0.mk (blk_drew BK403.out)
  replace BK405 := Aside0.mk (blk_drew BK405.out)
  replace HB := Aside0.mk (below_drew1 HB.out)
  refine start_ (n := 12) (S := fun w' => w'.cell? ⟨gb402, 0, none⟩ = some (.slice A0_0 l0_0.length c0_0) ∧ w'.cell? ⟨gb402, 1, none⟩ = some (.slice A0_1 l0_1.length c0_1) ∧ w'.cell? ⟨gb402, 2, none⟩ = some (.int .u64 a0_2) ∧ w'.cell? ⟨gb402, 3, none⟩ = some (.slice Ao24 t406.length co24)) (ds := [11]) (mb_ 12 0) (by kernel_rfl) rfl rfl ⟨(blk_cell BK402.out 0).trans rfl, (blk_cell BK402.out 1).trans rfl, (blk_cell BK402.out 2).trans rfl, (blk_cell BK402.out 3).trans rfl⟩ (fun hHeld => ?_); refine with_tabW ferryref04_Unmap.tab5 ferryref04_Unmap.bits5 (fun HT_ HW_ => ?_)
  generalize w26.drew = w27 at HO0_0 HO0_1 HO0_3 HO408 BK402 BK403 BK405 HB hHeld ⊢
  refine pS_ 0 21 (mb_ 12 1) ?_
  refine pS_ 3 24 (mb_ 12 9) ?_
  refine pS_ 4 25 (mb_ 12 25) ?_
  refine pS_ 6 27 (mb_ 12 89) ?_
  refine pS_ 7 28 (mb_ 12 217) ?_
  refine pS_ 8 29 (mb_ 12 473) ?_
  refine t4S_ 1 22 (mb_ 12 475) ?_
  refine t4S_ 2 23 (mb_ 12 479) ?_
  refine one_ (i := 5) (N := some 26) (mb_ 12 511) rfl rfl (one_of HT_.out (by kernel_rfl)) (by decide) (fun K hK => ?_)
  refine goes_ Try.func15 (by kernel_rfl) rfl #[.agg #[.slice A0_0 l0_0.length c0_0, .slice A0_1 l0_1.length c0_1, .int .u64 a0_2, .slice Ao24 t406.length co24], .int .u32 ((a1 * 4096) % 4294967296)] (by rfl) rfl rfl aT_ ?_
  with_reducible refine (ferryref04_Place.calls _ _ l0_0 _ _ l0_1 a0_2 _ _ t406 ((a1 * 4096) % 4294967296) t409 _ ?side1 ?side2 ?side3 ?side4 ?side5 ?side6 A12.out).mono ?_
  (case side1 => exact cT_ (Kd.V_reads' HO0_0.out).2.2)
  (case side2 => exact (Kd.V_reads' HO0_0.out).2.1)
  (case side3 => exact cT_ (Kd.V_reads' HO0_1.out).2.2)
  (case side4 => exact (Kd.V_reads' HO0_1.out).2.1)
  (case side5 => exact cT_ (Kd.R_reads' HO408.out).2.2)
  (case side6 => exact (Kd.R_reads' HO408.out).2.1)
  rintro e w28 ⟨rfl, hb⟩
  refine ⟨_, rfl, ?_⟩
  replace HO0_0 := vB_ HO0_0.out hb
  replace HO0_1 := vB_ HO0_1.out hb
  replace HO0_3 := vB_ HO0_3.out hb
  replace HO408 := rB_ HO408.out hb
  replace BK402 := kB_ BK402 hb
  replace BK403 := kB_ BK403 hb
  replace BK405 := kB_ BK405 hb
  replace HB := hB_ hb
  (try clear hb)
  (try clear hb2)
  (try clear hk)
  (try clear hi)
  refine hK.out _ _ ⟨(blk_cell BK402.out 0).trans rfl, (blk_cell BK402.out 1).trans rfl, (blk_cell BK402.out 2).trans rfl, (blk_cell BK402.out 3).trans rfl⟩ (fun hHeld => ?_)
  clear hK K
  refine nS_ ?_
  refine one_ (i := 9) (N := some 30) (mb_ 12 1023) rfl rfl (one_of HT_.out (by kernel_rfl)) (by decide) (fun K hK => ?_)
  refine goes_ Try.func45 (by kernel_rfl) rfl #[.agg #[.slice A0_0 l0_0.length c0_0, .slice A0_1 l0_1.length c0_1], .int .u64 t409, .int .u64 (IntKind.u64.wrap ((IntKind.u64.wrap (a2)) * 4096))] (by rfl) rfl rfl aT_ ?_
  with_reducible refine (ferryref03_Clear.calls k (fun k_ => (((P0_0_ k_ ∨ P0_1_ k_ ∨ P0_3_ k_) ∨ w.heap.size ≤ k_) ∧ (some k_ ≠ (.slice Ao24 t406.length co24 : Value).ownBlock ∧ (k_ ≠ gb402 ∧ (k_ ≠ gb403 ∧ k_ ≠ gb405))))) _ _ l0_0 _ _ l0_1 t409 (IntKind.u64.wrap ((IntKind.u64.wrap (a2)) * 4096)) t410 t413 _ ?side1 ?side2 ?side3 A13.out).mono ?_
  (case side1 => exact HO0_0.out)
  (case side2 => exact cT_ (Kd.V_reads' HO0_1.out).2.2)
  (case side3 => exact (Kd.V_reads' HO0_1.out).2.1)
  rintro e w29 ⟨v411, v414, rfl, ho0, ho1, hb⟩
  refine ⟨_, rfl, ?_⟩
  have HO412 := Aside0.mk (Kd.V_lower (Kd.V_mono (ok' := fun k_ => ((P0_0_ k_ ∨ P0_1_ k_ ∨ P0_3_ k_) ∨ w.heap.size ≤ k_) ∧ some k_ ≠ (v414 : Value).ownBlock ∧ some k_ ≠ (.slice Ao24 t406.length co24 : Value).ownBlock ∧ k_ ≠ gb402 ∧ k_ ≠ gb403 ∧ k_ ≠ gb405) ho0 (fun k_ hk_ => ⟨Or.elim hk_.1 (fun hs_ => hs_.1) (fun hn_ => (.inr (Nat.le_trans (below_size beT_) hn_))), hk_.2, Or.elim hk_.1 (fun hs_ => hs_.2.1) (fun hn_ => (Kd.fresh' (Kd.R_lt (rT_ HO408.out)) k_ hn_)), Or.elim hk_.1 (fun hs_ => hs_.2.2.1) (fun hn_ => (Kd.freshB (g := gb402) (o := .cells #[.slice A0_0 l0_0.length c0_0, .slice A0_1 l0_1.length c0_1, .int .u64 a0_2, .slice Ao24 t406.length co24] 29 (0, 0)) (bT_ BK402.out) k_ hn_)), Or.elim hk_.1 (fun hs_ => hs_.2.2.2.1) (fun hn_ => (Kd.freshB (g := gb403) (o := .cells #[.slice none 0 0, .slice none 0 0, .int .u64 0, .slice none 0 0] 29 (0, 0)) (bT_ BK403.out) k_ hn_)), Or.elim hk_.1 (fun hs_ => hs_.2.2.2.2) (fun hn_ => (Kd.freshB (g := gb405) (o := .cells #[.slice A0_0 l0_0.length c0_0, .slice A0_1 l0_1.length c0_1, .int .u64 a0_2, .slice A0_3 l0_3.length c0_3] 29 (0, 0)) (bT_ BK405.out) k_ hn_))⟩)) (below_size beT_))
  have HO415 := Aside0.mk (Kd.R_lower (Kd.R_newM (M := fun k_ => (w.heap.size ≤ k_)) (Kd.R_mono (ok' := fun k_ => True) ho1 (fun _ hk_ => trivial)) (below_size beT_) (fun k_ h_ => h_)) (below_size beT_))
  replace HO0_0 := Aside0.mk (Kd.V_elder' (vT_ HO0_0.out) (Kd.R_base ho1) hb)
  replace HO0_1 := Aside0.mk (Kd.V_elder' (vT_ HO0_1.out) (Kd.R_base ho1) hb)
  replace HO0_3 := Aside0.mk (Kd.V_elder' (vT_ HO0_3.out) (Kd.R_base ho1) hb)
  replace HO408 := rB_ HO408.out hb
  replace BK402 := kB_ BK402 hb
  replace BK403 := kB_ BK403 hb
  replace BK405 := kB_ BK405 hb
  replace HB := hB_ hb
  (try clear hb)
  (try clear hb2)
  (try clear hk)
  (try clear hi)
  (try clear ho0)
  (try clear ho1)
  obtain ⟨Ao30, co30, eo30⟩ := Kd.V_slice HO412.out
  (first | subst eo30 | (injection eo30 with f1_ f2_ f3_; have f4_ := f1_.symm; have f5_ := f3_.symm; clear f1_ f2_ f3_; subst f4_; subst f5_))
  obtain ⟨Ao32, co32, eo32⟩ := Kd.R_slice HO415.out
  (first | subst eo32 | (injection eo32 with f1_ f2_ f3_; have f4_ := f1_.symm; have f5_ := f3_.symm; clear f1_ f2_ f3_; subst f4_; subst f5_))
  refine hK.out _ _ ⟨(blk_cell BK402.out 0).trans rfl, (blk_cell BK402.out 1).trans rfl, (blk_cell BK402.out 2).trans rfl, (blk_cell BK402.out 3).trans rfl⟩ (fun hHeld => ?_)
  clear hK K
  refine nS_ ?_
  refine pS_ 10 31 (mb_ 12 2047) ?_
  refine last_ (i := 11) (N := none) (mb_ 12 4095) rfl rfl (one_of HT_.out (by kernel_rfl)) (by decide) (fun K hK => ?_)
  have hs31 : w29.cell? ⟨gb402, 0, none⟩ = some (.slice A0_0 l0_0.length c0_0) := (blk_cell BK402.out 0).trans rfl
  have hfs31 := blk_frozen BK402.out 0
  have hns31_1 := NB403_402.out
  have hns31_2 := NB405_402.out
  have hms31_1 := NB402_403.out
  have hms31_2 := NB402_405.out
  have hs33 : w29.cell? ⟨gb402, 1, none⟩ = some (.slice A0_1 l0_1.length c0_1) := (blk_cell BK402.out 1).trans rfl
  have hfs33 := blk_frozen BK402.out 1
  have hns33_1 := NB403_402.out
  have hns33_2 := NB405_402.out
  have hms33_1 := NB402_403.out
  have hms33_2 := NB402_405.out
  refine skip_ (w1 := ?_) (by rfl) rfl ?_ ?_
  rotate_left
  · go_simp
    rfl
  refine hK.out _ _ ?_
  clear hK K
  refine done_ (done_of HT_.out (by kernel_rfl)) ?_
  try go_wp2
  go_loopg [9] k (fun kq v9 w' => ∃ (x9_1 : Int) (x403000_1 : List (S55)) (x403001_1 : List (S60)) (u403000 : Value) (u403001 : Value), v9 = .int .i64 x9_1 ∧ Aside0 (ferryref04_Unmap.l0 kq x9_1 x403000_1 x403001_1 a0_2 t406 l0_0 l0_1 a0_2 l0_3 = some (r1, r2, r3, r4, r5)) ∧ Aside0 (kq ≤ k) ∧ Aside0 (Kd.V k55 55 w' w.heap.size (fun k_ => ((P0_0_ k_ ∨ P0_1_ k_ ∨ P0_3_ k_) ∨ w.heap.size ≤ k_) ∧ some k_ ≠ ((.slice Ao24 t406.length co24) : Value).ownBlock ∧ k_ ≠ gb402 ∧ k_ ≠ gb403 ∧ k_ ≠ gb405) u403000 x403000_1) ∧ Aside0 (Kd.V k60 60 w' w.heap.size (fun k_ => ((P0_0_ k_ ∨ P0_1_ k_ ∨ P0_3_ k_) ∨ w.heap.size ≤ k_) ∧ some k_ ≠ ((.slice Ao24 t406.length co24) : Value).ownBlock ∧ k_ ≠ gb402 ∧ k_ ≠ gb403 ∧ k_ ≠ gb405) u403001 x403001_1) ∧ Aside0 (Kd.R k39 39 w' w.heap.size (fun k_ => (w.heap.size ≤ k_)) (.slice Ao24 t406.length co24) t406) ∧ Aside0 (Kd.V k55 55 w' w.heap.size (fun k_ => ((P0_0_ k_ ∨ P0_1_ k_ ∨ P0_3_ k_) ∨ w.heap.size ≤ k_) ∧ some k_ ≠ ((.slice Ao24 t406.length co24) : Value).ownBlock ∧ k_ ≠ gb402 ∧ k_ ≠ gb403 ∧ k_ ≠ gb405) (.slice A0_0 l0_0.length c0_0) l0_0) ∧ Aside0 (Kd.V k60 60 w' w.heap.size (fun k_ => ((P0_0_ k_ ∨ P0_1_ k_ ∨ P0_3_ k_) ∨ w.heap.size ≤ k_) ∧ some k_ ≠ ((.slice Ao24 t406.length co24) : Value).ownBlock ∧ k_ ≠ gb402 ∧ k_ ≠ gb403 ∧ k_ ≠ gb405) (.slice A0_1 l0_1.length c0_1) l0_1) ∧ Aside0 (Kd.V k39 39 w' w.heap.size (fun k_ => ((P0_0_ k_ ∨ P0_1_ k_ ∨ P0_3_ k_) ∨ w.heap.size ≤ k_) ∧ some k_ ≠ ((.slice Ao24 t406.length co24) : Value).ownBlock ∧ k_ ≠ gb402 ∧ k_ ≠ gb403 ∧ k_ ≠ gb405) (.slice A0_3 l0_3.length c0_3) l0_3) ∧ Aside0 (w'.heap[gb402]? = some (.cells #[u403000, u403001, .int .u64 a0_2, (.slice Ao24 t406.length co24)] 29 (0, 0))) ∧ Aside0 (w'.heap[gb403]? = some (.cells #[(.slice none 0 0), (.slice none 0 0), .int .u64 0, (.slice none 0 0)] 29 (0, 0))) ∧ Aside0 (w'.heap[gb405]? = some (.cells #[(.slice A0_0 l0_0.length c0_0), (.slice A0_1 l0_1.length c0_1), .int .u64 a0_2, (.slice A0_3 l0_3.length c0_3)] 29 (0, 0))) ∧ Aside0 (Below w.heap.size w w'))
  case atStart => exact ⟨(0), (t410), (t413), (.slice Ao30 t410.length co30), (.slice Ao32 t413.length co32), r1_, H', ⟨Nat.le_refl _⟩, ⟨vF_ HO412.out⟩, ⟨Kd.V_mono (Kd.R_V (by (with_reducible repeat (first | apply Kd.R_alloc | apply Kd.R_drewN | apply Kd.R_drew)); exact Kd.R_far (p := ⟨gb402, 1, none⟩) (Kd.R_far (p := ⟨gb402, 0, none⟩) (Kd.R_types (Kd.R_types (Kd.R_types (Kd.R_types (Kd.R_apart' HO415.out (Kd.R_typed HO408.out) (by decide)) BK402.out (by decide)) BK403.out (by decide)) BK405.out (by decide)) BK402.out (by decide)) (fun _ hk => hk.2) (.slice Ao30 t410.length co30)) (fun _ hk => hk.2) (.slice Ao32 t413.length co32))) (fun k_ hk => by first | exact ⟨.inr hk.1.1.1.1.1.1, ⟨hk.1.1.1.1.2, ⟨hk.1.1.1.2, ⟨hk.1.1.2, hk.1.2⟩⟩⟩⟩ | grind)⟩, ⟨by (with_reducible repeat (first | apply Kd.R_alloc | apply Kd.R_drewN | apply Kd.R_drew)); exact Kd.R_mono (Kd.R_far (p := ⟨gb402, 1, none⟩) (Kd.R_far (p := ⟨gb402, 0, none⟩) (Kd.R_types HO408.out BK402.out (by decide)) (fun _ hk => hk.2) (.slice Ao30 t410.length co30)) (fun _ hk => hk.2) (.slice Ao32 t413.length co32)) (fun _ hk => hk.1)⟩, ⟨vF_ HO0_0.out⟩, ⟨vF_ HO0_1.out⟩, ⟨vF_ HO0_3.out⟩, ⟨kP_ BK402.out⟩, ⟨bfT_ BK403.out⟩, ⟨bfT_ BK405.out⟩, ⟨beT_⟩⟩
  case round =>
    clear H'
    try clear c1
    try clear c2
    try clear p2
    try clear c4
    try clear c5
    try clear c8
    try clear c15
    try clear c16
    try clear c18
    try clear c19
    try clear c20
    try clear hcz10_0
    try clear hcz10_1
    try clear hcz10_2
    try clear hcz10_3
    try clear hcz17_0
    try clear hcz17_1
    try clear hcz17_2
    try clear hcz17_3
    try clear hcz21_0
    try clear hcz21_1
    try clear hcz21_2
    try clear hcz21_3
    try clear hcz22_0
    try clear hcz22_1
    try clear hcz22_2
    try clear hcz22_3
    try clear hcz25_0
    try clear hcz25_1
    try clear hcz25_2
    try clear hcz25_3
    try clear hcz9_0
    try clear hcz9_1
    try clear hcz9_2
    try clear hcz9_3
    try clear hfz10_0
    try clear hfz10_1
    try clear hfz10_2
    try clear hfz10_3
    try clear hfz17_0
    try clear hfz17_1
    try clear hfz17_2
    try clear hfz17_3
    try clear hfz21_0
    try clear hfz21_1
    try clear hfz21_2
    try clear hfz21_3
    try clear hfz22_0
    try clear hfz22_1
    try clear hfz22_2
    try clear hfz22_3
    try clear hfz25_0
    try clear hfz25_1
    try clear hfz25_2
    try clear hfz25_3
    try clear hfz9_0
    try clear hfz9_1
    try clear hfz9_2
    try clear hfz9_3
    obtain ⟨x9_1, x403000_1, x403001_1, u403000, u403001, rfl, HA, HK1, HO_403000, HO_403001, HO_403003, HO_406000, HO_406001, HO_406003, BK402, BK403, BK405, HB⟩ := hrel
    cases gk with
    | zero => exact absurd HA.out (by simp [ferryref04_Unmap.l0])
    | succ k1 =>
      have H := HA.out
      clear HA
      simp only [ferryref04_Unmap.l0] at H
      by_cases c34 : x9_1 < (l0_3.length : Int)
      · rw [if_pos c34] at H
        have c34b0 : decide (x9_1 < (l0_3.length : Int)) = true := decide_eq_true c34
        clear c34
        by_cases c35 : 0 ≤ x9_1
        · rw [if_pos c35] at H
          have c35b0 : decide (0 ≤ x9_1) = true := decide_eq_true c35
          clear c35
          replace H := Option.bind_eq_some_iff.mp H
          obtain ⟨t417, A360, H⟩ := H
          have A36 := Aside0.mk A360
          clear A360
          replace H := Option.bind_eq_some_iff.mp H
          obtain ⟨t418, A370, H⟩ := H
          have A37 := Aside0.mk A370
          clear A370
          by_cases c38 : t418 = true
          · subst c38
            replace H := hP_ H
            have H' := Aside0.mk H
            clear H
            have hnb39 := NB405_402.out
            have hnc39 := NB402_405.out
            have hnb40 := NB405_403.out
            have hnc40 := NB403_405.out
            obtain ⟨hcz41_0, hcz41_1, hcz41_2, hcz41_3, hfz41_0, hfz41_1, hfz41_2, hfz41_3⟩ := b4_ BK405.out
            try go_wp2
            replace HO_403000 := Aside0.mk (Kd.V_drew HO_403000.out)
            replace HO_403001 := Aside0.mk (Kd.V_drew HO_403001.out)
            replace HO_403003 := Aside0.mk (Kd.R_drew HO_403003.out)
            replace HO_406000 := Aside0.mk (Kd.V_drew HO_406000.out)
            replace HO_406001 := Aside0.mk (Kd.V_drew HO_406001.out)
            replace HO_406003 := Aside0.mk (Kd.V_drew HO_406003.out)
            replace BK402 := Aside0.mk (blk_drew BK402.out)
            replace BK403 := Aside0.mk (blk_drew BK403.out)
            replace BK405 := Aside0.mk (blk_drew BK405.out)
            replace HB := Aside0.mk (below_drew1 HB.out)
            have p416 : 0 ≤ (x9_1 : Int) := dT_
            have q416 : x9_1 < (l0_3.length : Int) := dT_
            obtain ⟨ad416, e416, hx416_0, hx416_1⟩ := at_T39 (Kd.V_reads' HO_406003.out).2.2 x9_1 p416 q416
            cases e416
            replace p416 := eq_true p416
            replace q416 := eq_true q416
            obtain ⟨Ao43, co43, eo43⟩ := Kd.V_slice HO_403000.out
            (first | subst eo43 | (injection eo43 with f1_ f2_ f3_; have f4_ := f1_.symm; have f5_ := f3_.symm; clear f1_ f2_ f3_; subst f4_; subst f5_))
            obtain ⟨Ao44, co44, eo44⟩ := Kd.V_slice HO_403001.out
            (first | subst eo44 | (injection eo44 with f1_ f2_ f3_; have f4_ := f1_.symm; have f5_ := f3_.symm; clear f1_ f2_ f3_; subst f4_; subst f5_))
            refine start_ (n := 9) (S := fun w' => w'.cell? ⟨gb402, 0, none⟩ = some (.slice Ao43 x403000_1.length co43) ∧ w'.cell? ⟨gb402, 1, none⟩ = some (.slice Ao44 x403001_1.length co44) ∧ w'.cell? ⟨gb402, 2, none⟩ = some (.int .u64 a0_2) ∧ w'.cell? ⟨gb402, 3, none⟩ = some (.slice Ao24 t406.length co24) ∧ w'.cell? ⟨gb405, 0, none⟩ = some (.slice A0_0 l0_0.length c0_0) ∧ w'.cell? ⟨gb405, 1, none⟩ = some (.slice A0_1 l0_1.length c0_1) ∧ w'.cell? ⟨gb405, 2, none⟩ = some (.int .u64 a0_2) ∧ w'.cell? ⟨gb405, 3, none⟩ = some (.slice (some ad416) l0_3.length c0_3) ∧ w'.cell? (ad416.add ((x9_1).toNat * 2)) = some (.int .u32 ((rd_T39 l0_3 x9_1).f0)) ∧ w'.cell? ⟨(ad416.add ((x9_1).toNat * 2)).block, (ad416.add ((x9_1).toNat * 2)).off + 1, none⟩ = some (.int .i64 ((rd_T39 l0_3 x9_1).f1))) (ds := []) (mb_ 9 0) (by kernel_rfl) rfl rfl ⟨(blk_cell BK402.out 0).trans rfl, (blk_cell BK402.out 1).trans rfl, (blk_cell BK402.out 2).trans rfl, (blk_cell BK402.out 3).trans rfl, (blk_cell BK405.out 0).trans rfl, (blk_cell BK405.out 1).trans rfl, (blk_cell BK405.out 2).trans rfl, (blk_cell BK405.out 3).trans rfl, hx416_0, hx416_1⟩ (fun hHeld => ?_); refine with_tabW ferryref04_Unmap.tab9 ferryref04_Unmap.bits9 (fun HT_ HW_ => ?_)
            generalize wr.drew = w42 at HO_403000 HO_403001 HO_403003 HO_406000 HO_406001 HO_406003 BK402 BK403 BK405 HB hx416_0 hx416_1 hHeld ⊢
            refine pS_ 1 40 (mb_ 9 2) ?_
            refine pS_ 3 42 (mb_ 9 10) ?_
            refine t10S_ 0 39 (mb_ 9 11) ?_
            refine t10S_ 2 41 (mb_ 9 15) ?_
            refine pS_ 4 43 (mb_ 9 31) ?_
            refine pS_ 5 44 (mb_ 9 63) ?_
            refine t10S_ 6 45 (mb_ 9 127) ?_
            refine one_ (i := 7) (N := some 46) (mb_ 9 255) rfl rfl (one_of HT_.out (by kernel_rfl)) (by decide) (fun K hK => ?_)
            refine goes_ Try.func43 (by kernel_rfl) rfl #[.agg #[.slice Ao43 x403000_1.length co43, .slice Ao44 x403001_1.length co44, .int .u64 a0_2, .slice Ao24 t406.length co24], .int .u32 ((rd_T39 l0_3 x9_1).f0)] (by rfl) rfl rfl aT_ ?_
            with_reducible refine (ferryref04_hostPage.calls _ _ x403000_1 _ _ x403001_1 a0_2 _ _ t406 ((rd_T39 l0_3 x9_1).f0) t417 _ ?side1 ?side2 ?side3 ?side4 ?side5 ?side6 A36.out).mono ?_
            (case side1 => exact cT_ (Kd.V_reads' HO_403000.out).2.2)
            (case side2 => exact (Kd.V_reads' HO_403000.out).2.1)
            (case side3 => exact cT_ (Kd.V_reads' HO_403001.out).2.2)
            (case side4 => exact (Kd.V_reads' HO_403001.out).2.1)
            (case side5 => exact cT_ (Kd.R_reads' HO_403003.out).2.2)
            (case side6 => exact (Kd.R_reads' HO_403003.out).2.1)
            rintro e w45 ⟨rfl, hb⟩
            have HS8_ := (hb.cell (World.block_lt_of_cell? _ _ (hHeld.2.2.2.2.2.2.2.2.1))).trans (hHeld.2.2.2.2.2.2.2.2.1)
            have HS9_ := (hb.cell (World.block_lt_of_cell? _ _ (hHeld.2.2.2.2.2.2.2.2.2))).trans (hHeld.2.2.2.2.2.2.2.2.2)
            refine ⟨_, rfl, ?_⟩
            replace HO_403000 := vB_ HO_403000.out hb
            replace HO_403001 := vB_ HO_403001.out hb
            replace HO_403003 := rB_ HO_403003.out hb
            replace HO_406000 := vB_ HO_406000.out hb
            replace HO_406001 := vB_ HO_406001.out hb
            replace HO_406003 := vB_ HO_406003.out hb
            replace BK402 := kB_ BK402 hb
            replace BK403 := kB_ BK403 hb
            replace BK405 := kB_ BK405 hb
            replace HB := hB_ hb
            (try clear hb)
            (try clear hb2)
            (try clear hk)
            (try clear hi)
            refine hK.out _ _ ⟨(blk_cell BK402.out 0).trans rfl, (blk_cell BK402.out 1).trans rfl, (blk_cell BK402.out 2).trans rfl, (blk_cell BK402.out 3).trans rfl, (blk_cell BK405.out 0).trans rfl, (blk_cell BK405.out 1).trans rfl, (blk_cell BK405.out 2).trans rfl, (blk_cell BK405.out 3).trans rfl, HS8_, HS9_⟩ (fun hHeld => ?_)
            clear hK K
            refine nS_ ?_
            refine pS_ 8 10 (mb_ 9 511) ?_
            refine done_ (done_of HT_.out (by kernel_rfl)) ?_
            have hnb46 := NB402_403.out
            have hnc46 := NB403_402.out
            obtain ⟨hcz47_0, hcz47_1, hcz47_2, hcz47_3, hfz47_0, hfz47_1, hfz47_2, hfz47_3⟩ := b4_ BK402.out
            try go_wp2_with (first | ((with_reducible refine gate_callee (f := 30) rfl ?_); refine gL_ (some 49) Try.func30 #[.agg #[.slice Ao43 x403000_1.length co43, .slice Ao44 x403001_1.length co44, .int .u64 a0_2, .slice Ao24 t406.length co24], .int .u64 t417] ?_; (with_reducible refine (ferryref04_used.calls k1 _ _ x403000_1 _ _ x403001_1 a0_2 _ _ t406 t417 true _ ?side1 ?side2 ?side3 ?side4 ?side5 ?side6 A37.out).mono ?_); (case side1 => exact cT_ (Kd.V_reads' HO_403000.out).2.2); (case side2 => exact (Kd.V_reads' HO_403000.out).2.1); (case side3 => exact cT_ (Kd.V_reads' HO_403001.out).2.2); (case side4 => exact (Kd.V_reads' HO_403001.out).2.1); (case side5 => exact cT_ (Kd.R_reads' HO_403003.out).2.2); (case side6 => exact (Kd.R_reads' HO_403003.out).2.1); rintro e w48 ⟨rfl, hb⟩; refine ⟨_, rfl, ?_⟩; replace HO_403000 := vB_ HO_403000.out hb; replace HO_403001 := vB_ HO_403001.out hb; replace HO_403003 := rB_ HO_403003.out hb; replace HO_406000 := vB_ HO_406000.out hb; replace HO_406001 := vB_ HO_406001.out hb; replace HO_406003 := vB_ HO_406003.out hb; replace BK402 := kB_ BK402 hb; replace BK403 := kB_ BK403 hb; replace BK405 := kB_ BK405 hb; replace HB := hB_ hb; (try clear hb); (try clear hb2); (try clear hk); (try clear hi)))
            go_roundg k1
            case measure => have := HK1.out; omega
            case rel => exact ⟨(wrap64 (x9_1 + 1)), (x403000_1), (x403001_1), (.slice Ao43 x403000_1.length co43), (.slice Ao44 x403001_1.length co44), r1_, H', ⟨by have := HK1.out; omega⟩, ⟨vT_ HO_403000.out⟩, ⟨vT_ HO_403001.out⟩, ⟨rT_ HO_403003.out⟩, ⟨vT_ HO_406000.out⟩, ⟨vT_ HO_406001.out⟩, ⟨vT_ HO_406003.out⟩, ⟨bT_ BK402.out⟩, ⟨bT_ BK403.out⟩, ⟨bT_ BK405.out⟩, ⟨beT_⟩⟩
          replace c38 := Bool.eq_false_iff.mpr c38
          subst c38
          replace H := hN_ H
          replace H := Option.bind_eq_some_iff.mp H
          obtain ⟨⟨t419, t422, t425⟩, A490, H⟩ := H
          have A49 := Aside0.mk A490
          clear A490
          have H' := Aside0.mk H
          clear H
          have hnb50 := NB405_402.out
          have hnc50 := NB402_405.out
          have hnb51 := NB405_403.out
          have hnc51 := NB403_405.out
          obtain ⟨hcz52_0, hcz52_1, hcz52_2, hcz52_3, hfz52_0, hfz52_1, hfz52_2, hfz52_3⟩ := b4_ BK405.out
          try go_wp2
          replace HO_403000 := Aside0.mk (Kd.V_drew HO_403000.out)
          replace HO_403001 := Aside0.mk (Kd.V_drew HO_403001.out)
          replace HO_403003 := Aside0.mk (Kd.R_drew HO_403003.out)
          replace HO_406000 := Aside0.mk (Kd.V_drew HO_406000.out)
          replace HO_406001 := Aside0.mk (Kd.V_drew HO_406001.out)
          replace HO_406003 := Aside0.mk (Kd.V_drew HO_406003.out)
          replace BK402 := Aside0.mk (blk_drew BK402.out)
          replace BK403 := Aside0.mk (blk_drew BK403.out)
          replace BK405 := Aside0.mk (blk_drew BK405.out)
          replace HB := Aside0.mk (below_drew1 HB.out)
          have p416 : 0 ≤ (x9_1 : Int) := dT_
          have q416 : x9_1 < (l0_3.length : Int) := dT_
          obtain ⟨ad416, e416, hx416_0, hx416_1⟩ := at_T39 (Kd.V_reads' HO_406003.out).2.2 x9_1 p416 q416
          cases e416
          replace p416 := eq_true p416
          replace q416 := eq_true q416
          obtain ⟨Ao54, co54, eo54⟩ := Kd.V_slice HO_403000.out
          (first | subst eo54 | (injection eo54 with f1_ f2_ f3_; have f4_ := f1_.symm; have f5_ := f3_.symm; clear f1_ f2_ f3_; subst f4_; subst f5_))
          obtain ⟨Ao55, co55, eo55⟩ := Kd.V_slice HO_403001.out
          (first | subst eo55 | (injection eo55 with f1_ f2_ f3_; have f4_ := f1_.symm; have f5_ := f3_.symm; clear f1_ f2_ f3_; subst f4_; subst f5_))
          refine start_ (n := 9) (S := fun w' => w'.cell? ⟨gb402, 0, none⟩ = some (.slice Ao54 x403000_1.length co54) ∧ w'.cell? ⟨gb402, 1, none⟩ = some (.slice Ao55 x403001_1.length co55) ∧ w'.cell? ⟨gb402, 2, none⟩ = some (.int .u64 a0_2) ∧ w'.cell? ⟨gb402, 3, none⟩ = some (.slice Ao24 t406.length co24) ∧ w'.cell? ⟨gb405, 0, none⟩ = some (.slice A0_0 l0_0.length c0_0) ∧ w'.cell? ⟨gb405, 1, none⟩ = some (.slice A0_1 l0_1.length c0_1) ∧ w'.cell? ⟨gb405, 2, none⟩ = some (.int .u64 a0_2) ∧ w'.cell? ⟨gb405, 3, none⟩ = some (.slice (some ad416) l0_3.length c0_3) ∧ w'.cell? (ad416.add ((x9_1).toNat * 2)) = some (.int .u32 ((rd_T39 l0_3 x9_1).f0)) ∧ w'.cell? ⟨(ad416.add ((x9_1).toNat * 2)).block, (ad416.add ((x9_1).toNat * 2)).off + 1, none⟩ = some (.int .i64 ((rd_T39 l0_3 x9_1).f1))) (ds := []) (mb_ 9 0) (by kernel_rfl) rfl rfl ⟨(blk_cell BK402.out 0).trans rfl, (blk_cell BK402.out 1).trans rfl, (blk_cell BK402.out 2).trans rfl, (blk_cell BK402.out 3).trans rfl, (blk_cell BK405.out 0).trans rfl, (blk_cell BK405.out 1).trans rfl, (blk_cell BK405.out 2).trans rfl, (blk_cell BK405.out 3).trans rfl, hx416_0, hx416_1⟩ (fun hHeld => ?_); refine with_tabW ferryref04_Unmap.tab9 ferryref04_Unmap.bits9 (fun HT_ HW_ => ?_)
          generalize wr.drew = w53 at HO_403000 HO_403001 HO_403003 HO_406000 HO_406001 HO_406003 BK402 BK403 BK405 HB hx416_0 hx416_1 hHeld ⊢
          refine pS_ 1 40 (mb_ 9 2) ?_
          refine pS_ 3 42 (mb_ 9 10) ?_
          refine t10S_ 0 39 (mb_ 9 11) ?_
          refine t10S_ 2 41 (mb_ 9 15) ?_
          refine pS_ 4 43 (mb_ 9 31) ?_
          refine pS_ 5 44 (mb_ 9 63) ?_
          refine t10S_ 6 45 (mb_ 9 127) ?_
          refine one_ (i := 7) (N := some 46) (mb_ 9 255) rfl rfl (one_of HT_.out (by kernel_rfl)) (by decide) (fun K hK => ?_)
          refine goes_ Try.func43 (by kernel_rfl) rfl #[.agg #[.slice Ao54 x403000_1.length co54, .slice Ao55 x403001_1.length co55, .int .u64 a0_2, .slice Ao24 t406.length co24], .int .u32 ((rd_T39 l0_3 x9_1).f0)] (by rfl) rfl rfl aT_ ?_
          with_reducible refine (ferryref04_hostPage.calls _ _ x403000_1 _ _ x403001_1 a0_2 _ _ t406 ((rd_T39 l0_3 x9_1).f0) t417 _ ?side1 ?side2 ?side3 ?side4 ?side5 ?side6 A36.out).mono ?_
          (case side1 => exact cT_ (Kd.V_reads' HO_403000.out).2.2)
          (case side2 => exact (Kd.V_reads' HO_403000.out).2.1)
          (case side3 => exact cT_ (Kd.V_reads' HO_403001.out).2.2)
          (case side4 => exact (Kd.V_reads' HO_403001.out).2.1)
          (case side5 => exact cT_ (Kd.R_reads' HO_403003.out).2.2)
          (case side6 => exact (Kd.R_reads' HO_403003.out).2.1)
          rintro e w56 ⟨rfl, hb⟩
          have HS8_ := (hb.cell (World.block_lt_of_cell? _ _ (hHeld.2.2.2.2.2.2.2.2.1))).trans (hHeld.2.2.2.2.2.2.2.2.1)
          have HS9_ := (hb.cell (World.block_lt_of_cell? _ _ (hHeld.2.2.2.2.2.2.2.2.2))).trans (hHeld.2.2.2.2.2.2.2.2.2)
          refine ⟨_, rfl, ?_⟩
          replace HO_403000 := vB_ HO_403000.out hb
          replace HO_403001 := vB_ HO_403001.out hb
          replace HO_403003 := rB_ HO_403003.out hb
          replace HO_406000 := vB_ HO_406000.out hb
          replace HO_406001 := vB_ HO_406001.out hb
          replace HO_406003 := vB_ HO_406003.out hb
          replace BK402 := kB_ BK402 hb
          replace BK403 := kB_ BK403 hb
          replace BK405 := kB_ BK405 hb
          replace HB := hB_ hb
          (try clear hb)
          (try clear hb2)
          (try clear hk)
          (try clear hi)
          refine hK.out _ _ ⟨(blk_cell BK402.out 0).trans rfl, (blk_cell BK402.out 1).trans rfl, (blk_cell BK402.out 2).trans rfl, (blk_cell BK402.out 3).trans rfl, (blk_cell BK405.out 0).trans rfl, (blk_cell BK405.out 1).trans rfl, (blk_cell BK405.out 2).trans rfl, (blk_cell BK405.out 3).trans rfl, HS8_, HS9_⟩ (fun hHeld => ?_)
          clear hK K
          refine nS_ ?_
          refine pS_ 8 10 (mb_ 9 511) ?_
          refine done_ (done_of HT_.out (by kernel_rfl)) ?_
          have hnb57 := NB402_403.out
          have hnc57 := NB403_402.out
          obtain ⟨hcz58_0, hcz58_1, hcz58_2, hcz58_3, hfz58_0, hfz58_1, hfz58_2, hfz58_3⟩ := b4_ BK402.out
          try go_wp2_with (first | ((with_reducible refine gate_callee (f := 30) rfl ?_); refine gL_ (some 49) Try.func30 #[.agg #[.slice Ao54 x403000_1.length co54, .slice Ao55 x403001_1.length co55, .int .u64 a0_2, .slice Ao24 t406.length co24], .int .u64 t417] ?_; (with_reducible refine (ferryref04_used.calls k1 _ _ x403000_1 _ _ x403001_1 a0_2 _ _ t406 t417 false _ ?side1 ?side2 ?side3 ?side4 ?side5 ?side6 A37.out).mono ?_); (case side1 => exact cT_ (Kd.V_reads' HO_403000.out).2.2); (case side2 => exact (Kd.V_reads' HO_403000.out).2.1); (case side3 => exact cT_ (Kd.V_reads' HO_403001.out).2.2); (case side4 => exact (Kd.V_reads' HO_403001.out).2.1); (case side5 => exact cT_ (Kd.R_reads' HO_403003.out).2.2); (case side6 => exact (Kd.R_reads' HO_403003.out).2.1); rintro e w59 ⟨rfl, hb⟩; refine ⟨_, rfl, ?_⟩; replace HO_403000 := vB_ HO_403000.out hb; replace HO_403001 := vB_ HO_403001.out hb; replace HO_403003 := rB_ HO_403003.out hb; replace HO_406000 := vB_ HO_406000.out hb; replace HO_406001 := vB_ HO_406001.out hb; replace HO_406003 := vB_ HO_406003.out hb; replace BK402 := kB_ BK402 hb; replace BK403 := kB_ BK403 hb; replace BK405 := kB_ BK405 hb; replace HB := hB_ hb; (try clear hb); (try clear hb2); (try clear hk); (try clear hi); obtain ⟨hcz60_0, hcz60_1, hcz60_2, hcz60_3, hfz60_0, hfz60_1, hfz60_2, hfz60_3⟩ := b4_ BK402.out) | ((with_reducible refine gate_callee (f := 47) rfl ?_); refine gL_ (some 55) Try.func47 #[.agg #[.slice Ao54 x403000_1.length co54, .slice Ao55 x403001_1.length co55], .int .u64 t417, .int .u64 1] ?_; (with_reducible refine (ferryref03_Unmap.calls k1 (fun k_ => (((P0_0_ k_ ∨ P0_1_ k_ ∨ P0_3_ k_) ∨ w.heap.size ≤ k_) ∧ (some k_ ≠ (.slice Ao24 t406.length co24 : Value).ownBlock ∧ (k_ ≠ gb402 ∧ (k_ ≠ gb403 ∧ k_ ≠ gb405))))) _ _ x403000_1 (fun k_ => (((P0_0_ k_ ∨ P0_1_ k_ ∨ P0_3_ k_) ∨ w.heap.size ≤ k_) ∧ (some k_ ≠ (.slice Ao24 t406.length co24 : Value).ownBlock ∧ (k_ ≠ gb402 ∧ (k_ ≠ gb403 ∧ k_ ≠ gb405))))) _ _ x403001_1 t417 1 t419 t422 t425 _ ?side1 ?side2 A49.out).mono ?_); (case side1 => exact HO_403000.out); (case side2 => exact HO_403001.out); rintro e w61 ⟨v420, v423, rfl, ho0, ho1, hb⟩; refine ⟨_, rfl, ?_⟩; have HO421 := Aside0.mk (Kd.V_lower (Kd.V_mono (ok' := fun k_ => ((P0_0_ k_ ∨ P0_1_ k_ ∨ P0_3_ k_) ∨ w.heap.size ≤ k_) ∧ some k_ ≠ (.slice Ao24 t406.length co24 : Value).ownBlock ∧ k_ ≠ gb402 ∧ k_ ≠ gb403 ∧ k_ ≠ gb405) ho0 (fun k_ hk_ => ⟨Or.elim hk_ (fun hs_ => Or.elim hs_ (fun hs_ => hs_.1) (fun hs_ => hs_.1)) (fun hn_ => (.inr (Nat.le_trans (below_size beT_) hn_))), Or.elim hk_ (fun hs_ => Or.elim hs_ (fun hs_ => hs_.2.1) (fun hs_ => hs_.2.1)) (fun hn_ => (Kd.fresh' (Kd.R_lt (rT_ HO_403003.out)) k_ hn_)), Or.elim hk_ (fun hs_ => Or.elim hs_ (fun hs_ => hs_.2.2.1) (fun hs_ => hs_.2.2.1)) (fun hn_ => (Kd.freshB (g := gb402) (o := .cells #[.slice Ao54 x403000_1.length co54, .slice Ao55 x403001_1.length co55, .int .u64 a0_2, .slice Ao24 t406.length co24] 29 (0, 0)) (bT_ BK402.out) k_ hn_)), Or.elim hk_ (fun hs_ => Or.elim hs_ (fun hs_ => hs_.2.2.2.1) (fun hs_ => hs_.2.2.2.1)) (fun hn_ => (Kd.freshB (g := gb403) (o := .cells #[.slice none 0 0, .slice none 0 0, .int .u64 0, .slice none 0 0] 29 (0, 0)) (bT_ BK403.out) k_ hn_)), Or.elim hk_ (fun hs_ => Or.elim hs_ (fun hs_ => hs_.2.2.2.2) (fun hs_ => hs_.2.2.2.2)) (fun hn_ => (Kd.freshB (g := gb405) (o := .cells #[.slice A0_0 l0_0.length c0_0, .slice A0_1 l0_1.length c0_1, .int .u64 a0_2, .slice (some ad416) l0_3.length c0_3] 29 (0, 0)) (bT_ BK405.out) k_ hn_))⟩)) (below_size beT_)); have HO424 := Aside0.mk (Kd.V_lower (Kd.V_mono (ok' := fun k_ => ((P0_0_ k_ ∨ P0_1_ k_ ∨ P0_3_ k_) ∨ w.heap.size ≤ k_) ∧ some k_ ≠ (.slice Ao24 t406.length co24 : Value).ownBlock ∧ k_ ≠ gb402 ∧ k_ ≠ gb403 ∧ k_ ≠ gb405) ho1 (fun k_ hk_ => ⟨Or.elim hk_ (fun hs_ => Or.elim hs_ (fun hs_ => hs_.1) (fun hs_ => hs_.1)) (fun hn_ => (.inr (Nat.le_trans (below_size beT_) hn_))), Or.elim hk_ (fun hs_ => Or.elim hs_ (fun hs_ => hs_.2.1) (fun hs_ => hs_.2.1)) (fun hn_ => (Kd.fresh' (Kd.R_lt (rT_ HO_403003.out)) k_ hn_)), Or.elim hk_ (fun hs_ => Or.elim hs_ (fun hs_ => hs_.2.2.1) (fun hs_ => hs_.2.2.1)) (fun hn_ => (Kd.freshB (g := gb402) (o := .cells #[.slice Ao54 x403000_1.length co54, .slice Ao55 x403001_1.length co55, .int .u64 a0_2, .slice Ao24 t406.length co24] 29 (0, 0)) (bT_ BK402.out) k_ hn_)), Or.elim hk_ (fun hs_ => Or.elim hs_ (fun hs_ => hs_.2.2.2.1) (fun hs_ => hs_.2.2.2.1)) (fun hn_ => (Kd.freshB (g := gb403) (o := .cells #[.slice none 0 0, .slice none 0 0, .int .u64 0, .slice none 0 0] 29 (0, 0)) (bT_ BK403.out) k_ hn_)), Or.elim hk_ (fun hs_ => Or.elim hs_ (fun hs_ => hs_.2.2.2.2) (fun hs_ => hs_.2.2.2.2)) (fun hn_ => (Kd.freshB (g := gb405) (o := .cells #[.slice A0_0 l0_0.length c0_0, .slice A0_1 l0_1.length c0_1, .int .u64 a0_2, .slice (some ad416) l0_3.length c0_3] 29 (0, 0)) (bT_ BK405.out) k_ hn_))⟩)) (below_size beT_)); replace HO_403000 := vB_ HO_403000.out hb; replace HO_403001 := vB_ HO_403001.out hb; replace HO_403003 := rB_ HO_403003.out hb; replace HO_406000 := vB_ HO_406000.out hb; replace HO_406001 := vB_ HO_406001.out hb; replace HO_406003 := vB_ HO_406003.out hb; replace BK402 := kB_ BK402 hb; replace BK403 := kB_ BK403 hb; replace BK405 := kB_ BK405 hb; replace HB := hB_ hb; (try clear hb); (try clear hb2); (try clear hk); (try clear hi); (try clear ho0); (try clear ho1); obtain ⟨Ao62, co62, eo62⟩ := Kd.V_slice HO421.out; subst eo62; obtain ⟨hcz63_0, hcz63_1, hcz63_2, hcz63_3, hfz63_0, hfz63_1, hfz63_2, hfz63_3⟩ := b4_ BK402.out; obtain ⟨Ao64, co64, eo64⟩ := Kd.V_slice HO424.out; subst eo64))
          go_roundg k1
          case measure => have := HK1.out; omega
          case rel => exact ⟨(wrap64 (x9_1 + 1)), (t419), (t422), (.slice Ao62 t419.length co62), (.slice Ao64 t422.length co64), r1_, H', ⟨by have := HK1.out; omega⟩, ⟨vF_ HO421.out⟩, ⟨vF_ HO424.out⟩, ⟨by (with_reducible repeat (first | apply Kd.R_alloc | apply Kd.R_drewN | apply Kd.R_drew)); exact Kd.R_mono (Kd.R_far (p := ⟨gb402, 1, none⟩) (Kd.R_far (p := ⟨gb402, 0, none⟩) (Kd.R_types HO_403003.out BK402.out (by decide)) (fun _ hk => hk.2) (.slice Ao62 t419.length co62)) (fun _ hk => hk.2) (.slice Ao64 t422.length co64)) (fun _ hk => hk.1)⟩, ⟨vF_ HO_406000.out⟩, ⟨vF_ HO_406001.out⟩, ⟨vF_ HO_406003.out⟩, ⟨kP_ BK402.out⟩, ⟨bfT_ BK403.out⟩, ⟨bfT_ BK405.out⟩, ⟨beT_⟩⟩
        rw [if_neg c35] at H
        exact absurd H (by simp)
      rw [if_neg c34] at H
      have c34b0 : decide (x9_1 < (l0_3.length : Int)) = false := decide_eq_false c34
      clear c34
      simp only [Option.some.injEq, Prod.mk.injEq] at H
      obtain ⟨rfl, rfl, rfl, rfl, rfl⟩ := H
      have hnb65 := NB405_402.out
      have hnc65 := NB402_405.out
      have hnb66 := NB405_403.out
      have hnc66 := NB403_405.out
      obtain ⟨hcz67_0, hcz67_1, hcz67_2, hcz67_3, hfz67_0, hfz67_1, hfz67_2, hfz67_3⟩ := b4_ BK405.out
      have hnb68 := NB402_403.out
      have hnc68 := NB403_402.out
      obtain ⟨hcz69_0, hcz69_1, hcz69_2, hcz69_3, hfz69_0, hfz69_1, hfz69_2, hfz69_3⟩ := b4_ BK402.out
      obtain ⟨Ao70, co70, eo70⟩ := Kd.V_slice HO_403000.out
      subst eo70
      obtain ⟨hcz71_0, hcz71_1, hcz71_2, hcz71_3, hfz71_0, hfz71_1, hfz71_2, hfz71_3⟩ := b4_ BK403.out
      obtain ⟨Ao72, co72, eo72⟩ := Kd.V_slice HO_403001.out
      subst eo72
      go_wp2
      refine bodyPost_ret (results_ct rfl _ _ gb403 29 #[.slice Ao70 x403000_1.length co70, .slice Ao72 x403001_1.length co72, .int .u64 a0_2, .slice Ao24 t406.length co24] (0, 0) _ rfl (kP_ BK403.out) Try.underlying29 rfl (by kernel_rfl)) rfl ?_
      exact ⟨_, _, _, r3_, (vF_ HO_403000.out), (vF_ HO_403001.out), Kd.V_mono (Kd.R_V (by (with_reducible repeat (first | apply Kd.R_alloc | apply Kd.R_drewN | apply Kd.R_drew)); exact Kd.R_far (p := ⟨gb403, 3, none⟩) (Kd.R_far (p := ⟨gb403, 2, none⟩) (Kd.R_far (p := ⟨gb403, 1, none⟩) (Kd.R_far (p := ⟨gb403, 0, none⟩) (Kd.R_types HO_403003.out BK403.out (by decide)) (fun _ hk => hk.2) (.slice Ao70 x403000_1.length co70)) (fun _ hk => hk.2) (.slice Ao72 x403001_1.length co72)) (fun _ hk => hk.2) (.int .u64 a0_2)) (fun _ hk => hk.2) (.slice Ao24 t406.length co24))) (fun k_ hk => by first | exact .inr hk.1 | grind), beT_⟩

end Go.Proofs.Ytjhfglpgpicmiaa.F
end
