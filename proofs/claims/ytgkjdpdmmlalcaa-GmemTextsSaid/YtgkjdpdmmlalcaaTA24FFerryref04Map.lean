import Derived.Test.YtgkjdpdmmlalcaaTZF0
import Derived.Test.YtgkjdpdmmlalcaaTA0
import Derived.Test.YtgkjdpdmmlalcaaTA6
import Derived.Test.YtgkjdpdmmlalcaaTA11FFerryref03Map
import Derived.Test.YtgkjdpdmmlalcaaTA17FFerryref03Clear
import Derived.Test.YtgkjdpdmmlalcaaTA22
import Derived.Test.YtgkjdpdmmlalcaaTA23FFerryref04With
section
namespace Go.Proofs.Ytgkjdpdmmlalcaa.F
open Go.RowKit Go.Proofs.YtgkjdpdmmlalcaaW.PrintWords Go.Proofs.YtgkjdpdmmlalcaaW.PrintLast Go.Proofs.YtgkjdpdmmlalcaaW.PrintMore
attribute [local go_sem] max2_int min2_int max_two min_two max_three min_three max_four min_four
attribute [local go_sem] cell_twice
set_option linter.unusedVariables false
set_option linter.unusedSimpArgs false

def ferryref04_Map.l0 : Nat → Int → Int → Int → List (S41) → Int → List (S83) → List (S88) → Int → List (S41) → List (S83) → List (S88) → Option ((List (S83)) × (List (S88)) × Int × (List (S41)) × Int)
  | 0, _, _, _, _, _, _, _, _, _, _, _ => none
  | k + 1, x1, x2, x3, x10, x12, x270000, x270001, x270002, x270003, x276000, x276001 => (ferryref04_hostPage.f x270000 x270001 x270002 x270003 ((((x1 + x2) % 4294967296) - 1) % 4294967296)).bind fun t277 => (if x12 ≤ t277 then ((ferryref04_used.f k x270000 x270001 x270002 x270003 x12).bind fun t288 => (if t288 = true then (ferryref04_Map.l0 k x1 x2 x3 x10 (IntKind.u64.wrap (x12 + 1)) x270000 x270001 x270002 x270003 x276000 x276001) else ((ferryref03_Map.f k x276000 x276001 x12 1 3).bind fun bt289 => (if bt289.2.2 = 0 then (ferryref04_Map.l0 k x1 x2 x3 x10 (IntKind.u64.wrap (x12 + 1)) x270000 x270001 x270002 x270003 bt289.1 bt289.2.1) else (some (x270000, x270001, x270002, x270003, 105)))))) else ((ferryref04_Place.f x270000 x270001 x270002 x270003 ((x1 * 4096) % 4294967296)).bind fun t278 => ((ferryref03_Clear.f k x276000 x276001 t278 (IntKind.u64.wrap ((IntKind.u64.wrap (x2)) * 4096))).bind fun bt279 => ((ferryref04_with.f k x10 x1 x2 x3).bind fun t285 => (some (bt279.1, bt279.2, x270002, t285, 0))))))
def ferryref04_Map.f (k : Nat) (l0_0 : List (S83)) (l0_1 : List (S88)) (a0_2 : Int) (l0_3 : List (S41)) (a1 : Int) (a2 : Int) (a3 : Int) : Option ((List (S83)) × (List (S88)) × Int × (List (S41)) × Int) := (ferryref04_wrong.f a1 a2 a3).bind fun t271 => (if t271 = true then (some (l0_0, l0_1, a0_2, l0_3, 22)) else ((ferryref04_without.f k l0_0 l0_1 a0_2 l0_3 a1 a2).bind fun t272 => (if a2 > ((wrap64 (256 - (t272.length : Int))) % 4294967296) then (some (l0_0, l0_1, a0_2, l0_3, 12)) else ((ferryref04_hostPage.f l0_0 l0_1 a0_2 l0_3 a1).bind fun t276 => (ferryref04_Map.l0 k a1 a2 a3 t272 t276 l0_0 l0_1 a0_2 l0_3 l0_0 l0_1)))))
theorem ferryref04_Map.mono_l : ∀ k, (∀ y0 y1 y2 y3 y4 y5 y6 y7 y8 y9 y10, LeO (ferryref04_Map.l0 k y0 y1 y2 y3 y4 y5 y6 y7 y8 y9 y10) (ferryref04_Map.l0 (k + 1) y0 y1 y2 y3 y4 y5 y6 y7 y8 y9 y10))
  | 0 => fun _ _ _ _ _ _ _ _ _ _ _ r h => by simp [ferryref04_Map.l0] at h
  | k + 1 => by
    have ih0 := ferryref04_Map.mono_l k
    · intro y0 y1 y2 y3 y4 y5 y6 y7 y8 y9 y10
      unfold ferryref04_Map.l0
      have ic0 := @ferryref03_Clear.mono; have ic1 := @ferryref03_Map.mono; have ic2 := @ferryref04_used.mono; have ic3 := @ferryref04_with.mono; have ic4 := @ferryref04_without.mono; exact moT_
theorem ferryref04_Map.mono : ∀ a0 a1 a2 a3 a4 a5 a6 k, LeO (ferryref04_Map.f k a0 a1 a2 a3 a4 a5 a6) (ferryref04_Map.f (k + 1) a0 a1 a2 a3 a4 a5 a6) := by
  intro a0 a1 a2 a3 a4 a5 a6 k
  have ih0 := ferryref04_Map.mono_l k
  unfold ferryref04_Map.f
  have ic0 := @ferryref03_Clear.mono; have ic1 := @ferryref03_Map.mono; have ic2 := @ferryref04_used.mono; have ic3 := @ferryref04_with.mono; have ic4 := @ferryref04_without.mono; exact moT_
def ferryref04_Map.T15 : Bool × List (List Nat × List Nat) := (true, [([], []), ([], []), ([], []), ([2], [2]), ([1, 3], [1, 3]), ([], []), ([5], [5]), ([6], [6]), ([0, 4, 7, 4], [0, 4, 7]), ([0, 1, 2, 3, 4, 5, 6, 7, 8], []), ([9, 8, 8, 0, 1, 2, 3, 4, 5, 6, 7, 8], [8, 9])])
def ferryref04_Map.B15 : List Nat := [0, 0, 0, 4, 14, 0, 32, 96, 255, 511, 1023]
theorem ferryref04_Map.tab15 : rtab .any (opsOf Try.f38 15) = ferryref04_Map.T15 := by kernel_rfl
theorem ferryref04_Map.bits15 : waitsOk ferryref04_Map.T15.2 ferryref04_Map.B15 = true := by kernel_rfl
set_option maxHeartbeats 8000000 in
set_option maxRecDepth 100000 in
theorem ferryref04_Map.calls (k : Nat) (P0_0_ : Nat → Prop) (A0_0 : Option Addr) (c0_0 : Nat) (l0_0 : List (S83)) (P0_1_ : Nat → Prop) (A0_1 : Option Addr) (c0_1 : Nat) (l0_1 : List (S88)) (a0_2 : Int) (P0_3_ : Nat → Prop) (A0_3 : Option Addr) (c0_3 : Nat) (l0_3 : List (S41)) (a1 : Int) (a2 : Int) (a3 : Int) (r1 : List (S83)) (r2 : List (S88)) (r3 : Int) (r4 : List (S41)) (r5 : Int) (w : World) (hs0_0 : Kd.V k83 83 w w.heap.size (fun k_ => P0_0_ k_) (.slice A0_0 l0_0.length c0_0) l0_0) (hs0_1 : Kd.V k88 88 w w.heap.size (fun k_ => P0_1_ k_) (.slice A0_1 l0_1.length c0_1) l0_1) (hs0_3 : Kd.V k41 41 w w.heap.size (fun k_ => P0_3_ k_) (.slice A0_3 l0_3.length c0_3) l0_3) (h : ferryref04_Map.f k l0_0 l0_1 a0_2 l0_3 a1 a2 a3 = some (r1, r2, r3, r4, r5)) :
    Calls Try.prog 38 #[.agg #[.slice A0_0 l0_0.length c0_0, .slice A0_1 l0_1.length c0_1, .int .u64 a0_2, .slice A0_3 l0_3.length c0_3], .int .u32 a1, .int .u32 a2, .int .i64 a3] w fun e w' => ∃ v0_ v1_ v3_ : Value, e = .returned (.tuple #[.agg #[v0_, v1_, .int .u64 r3, v3_], .int .i64 r5]) ∧ Kd.V k83 83 w' w.heap.size (fun k_ => ((P0_0_ k_ ∨ P0_1_ k_ ∨ P0_3_ k_) ∨ w.heap.size ≤ k_)) v0_ r1 ∧ Kd.V k88 88 w' w.heap.size (fun k_ => ((P0_0_ k_ ∨ P0_1_ k_ ∨ P0_3_ k_) ∨ w.heap.size ≤ k_)) v1_ r2 ∧ Kd.V k41 41 w' w.heap.size (fun k_ => ((P0_0_ k_ ∨ P0_1_ k_ ∨ P0_3_ k_) ∨ w.heap.size ≤ k_)) v3_ r4 ∧ Below w.heap.size w w' := by
  have hu29 := Try.underlying29
  have hu25 := Try.underlying25
  have HO0_0 := Aside0.mk (show Kd.V k83 83 w w.heap.size (fun k_ => ((P0_0_ k_ ∨ P0_1_ k_ ∨ P0_3_ k_) ∨ w.heap.size ≤ k_)) (.slice A0_0 l0_0.length c0_0) l0_0 from Kd.V_mono hs0_0 (fun k_ hk => .inl (.inl hk)))
  have HO0_1 := Aside0.mk (show Kd.V k88 88 w w.heap.size (fun k_ => ((P0_0_ k_ ∨ P0_1_ k_ ∨ P0_3_ k_) ∨ w.heap.size ≤ k_)) (.slice A0_1 l0_1.length c0_1) l0_1 from Kd.V_mono hs0_1 (fun k_ hk => .inl (.inr (.inl hk))))
  have HO0_3 := Aside0.mk (show Kd.V k41 41 w w.heap.size (fun k_ => ((P0_0_ k_ ∨ P0_1_ k_ ∨ P0_3_ k_) ∨ w.heap.size ≤ k_)) (.slice A0_3 l0_3.length c0_3) l0_3 from Kd.V_mono hs0_3 (fun k_ hk => .inl (.inr (.inr hk))))
  have HB := Aside0.mk (Below.refl w.heap.size w)
  have H : ((ferryref04_wrong.f a1 a2 a3).bind fun t271 => (if t271 = true then (some (l0_0, l0_1, a0_2, l0_3, 22)) else ((ferryref04_without.f k l0_0 l0_1 a0_2 l0_3 a1 a2).bind fun t272 => (if a2 > ((wrap64 (256 - (t272.length : Int))) % 4294967296) then (some (l0_0, l0_1, a0_2, l0_3, 12)) else ((ferryref04_hostPage.f l0_0 l0_1 a0_2 l0_3 a1).bind fun t276 => (ferryref04_Map.l0 k a1 a2 a3 t272 t276 l0_0 l0_1 a0_2 l0_3 l0_0 l0_1)))))) = some (r1, r2, r3, r4, r5) := h
  clear h
  replace H := Option.bind_eq_some_iff.mp H
  obtain ⟨t271, A50, H⟩ := H
  have A5 := Aside0.mk A50
  clear A50
  by_cases c6 : t271 = true
  · subst c6
    replace H := hP_ H
    simp only [Option.some.injEq, Prod.mk.injEq] at H
    obtain ⟨rfl, rfl, rfl, rfl, rfl⟩ := H
    go_enter Try.func38, Try.ntmps38
    go_wp2_with (first | ((with_reducible refine gate_dst (N := 4) rfl ?_); refine bE_ 4 #[.slice A0_0 l0_0.length c0_0, .slice A0_1 l0_1.length c0_1, .int .u64 a0_2, .slice A0_3 l0_3.length c0_3] 29 ?_; intro gb269 hg w7 hbox hb; have BK269 := Aside0.mk hbox; have GW269 := geT_ w.heap.size hg; have GE269 := geT_ w.heap.size hg; replace HO0_0 := vE_ HO0_0.out hg hb; replace HO0_1 := vE_ HO0_1.out hg hb; replace HO0_3 := vE_ HO0_3.out hg hb; replace HB := hB_ hb; clear hb hbox hg) | ((with_reducible refine gate_dst (N := 8) rfl ?_); refine bE_ 8 #[.slice none 0 0, .slice none 0 0, .int .u64 0, .slice none 0 0] 29 ?_; intro gb270 hg w8 hbox hb; have BK270 := Aside0.mk hbox; have GW270 := geT_ w.heap.size hg; have GE270 := geT_ w.heap.size hg; have NB269_270 := nlT_ BK269.out hg; have NB270_269 := ngT_ BK269.out hg; replace HO0_0 := vE_ HO0_0.out hg hb; replace HO0_1 := vE_ HO0_1.out hg hb; replace HO0_3 := vE_ HO0_3.out hg hb; replace BK269 := kB_ BK269 hb; replace HB := hB_ hb; clear hb hbox hg) | ((with_reducible refine gate_callee (f := 69) rfl ?_); refine gL_ (some 18) Try.func69 #[.int .u32 a1, .int .u32 a2, .int .i64 a3] ?_; (with_reducible refine (ferryref04_wrong.calls a1 a2 a3 true _ A5.out).mono ?_); rintro e w' ⟨rfl, ⟨nd, rfl⟩⟩; refine ⟨_, rfl, ?_⟩; (try (rw [drewN_self w8]; generalize hq_ : World.drewN w8 _ = w8; replace HO0_0 : Aside0 (Kd.V k83 83 w8 w.heap.size (fun k_ => ((P0_0_ k_ ∨ P0_1_ k_ ∨ P0_3_ k_) ∨ w.heap.size ≤ k_) ∧ k_ ≠ gb269 ∧ k_ ≠ gb270) (.slice A0_0 l0_0.length c0_0) l0_0) := ⟨by rw [← hq_]; exact (vM_ HO0_0.out)⟩; replace HO0_1 : Aside0 (Kd.V k88 88 w8 w.heap.size (fun k_ => ((P0_0_ k_ ∨ P0_1_ k_ ∨ P0_3_ k_) ∨ w.heap.size ≤ k_) ∧ k_ ≠ gb269 ∧ k_ ≠ gb270) (.slice A0_1 l0_1.length c0_1) l0_1) := ⟨by rw [← hq_]; exact (vM_ HO0_1.out)⟩; replace HO0_3 : Aside0 (Kd.V k41 41 w8 w.heap.size (fun k_ => ((P0_0_ k_ ∨ P0_1_ k_ ∨ P0_3_ k_) ∨ w.heap.size ≤ k_) ∧ k_ ≠ gb269 ∧ k_ ≠ gb270) (.slice A0_3 l0_3.length c0_3) l0_3) := ⟨by rw [← hq_]; exact (vM_ HO0_3.out)⟩; replace BK269 : Aside0 (w8.heap[gb269]? = some (.cells #[.slice A0_0 l0_0.length c0_0, .slice A0_1 l0_1.length c0_1, .int .u64 a0_2, .slice A0_3 l0_3.length c0_3] 29 (0, 0))) := ⟨by rw [← hq_]; exact (bT_ BK269.out)⟩; replace BK270 : Aside0 (w8.heap[gb270]? = some (.cells #[.slice none 0 0, .slice none 0 0, .int .u64 0, .slice none 0 0] 29 (0, 0))) := ⟨by rw [← hq_]; exact (bT_ BK270.out)⟩; replace HB : Aside0 (Below w.heap.size w w8) := ⟨by rw [← hq_]; exact beT_⟩; clear hq_)); have hnb9 := NB269_270.out; have hnc9 := NB270_269.out; obtain ⟨hcz10_0, hcz10_1, hcz10_2, hcz10_3, hfz10_0, hfz10_1, hfz10_2, hfz10_3⟩ := b4_ BK269.out; obtain ⟨hcz11_0, hcz11_1, hcz11_2, hcz11_3, hfz11_0, hfz11_1, hfz11_2, hfz11_3⟩ := b4_ BK270.out))
    refine bodyPost_ret (results_ct rfl _ _ gb270 29 #[.slice A0_0 l0_0.length c0_0, .slice A0_1 l0_1.length c0_1, .int .u64 a0_2, .slice A0_3 l0_3.length c0_3] (0, 0) _ rfl (kP_ BK270.out) Try.underlying29 rfl (by kernel_rfl)) rfl ?_
    exact ⟨_, _, _, r3_, (vF_ HO0_0.out), (vF_ HO0_1.out), (vF_ HO0_3.out), beT_⟩
  replace c6 := Bool.eq_false_iff.mpr c6
  subst c6
  replace H := hN_ H
  replace H := Option.bind_eq_some_iff.mp H
  obtain ⟨t272, A120, H⟩ := H
  have A12 := Aside0.mk A120
  clear A120
  by_cases c13 : a2 > ((wrap64 (256 - (t272.length : Int))) % 4294967296)
  · rw [if_pos c13] at H
    have c13b0 : decide (((wrap64 (256 - (t272.length : Int))) % 4294967296) < a2) = true := decide_eq_true c13
    (try (have c13bs0 := c13b0; simp only [Int.add_emod_emod, Int.emod_add_emod, Int.sub_emod_emod, Int.emod_sub_emod] at c13bs0))
    clear c13
    simp only [Option.some.injEq, Prod.mk.injEq] at H
    obtain ⟨rfl, rfl, rfl, rfl, rfl⟩ := H
    go_enter Try.func38, Try.ntmps38
    go_wp2_with (first | ((with_reducible refine gate_dst (N := 4) rfl ?_); refine bE_ 4 #[.slice A0_0 l0_0.length c0_0, .slice A0_1 l0_1.length c0_1, .int .u64 a0_2, .slice A0_3 l0_3.length c0_3] 29 ?_; intro gb269 hg w14 hbox hb; have BK269 := Aside0.mk hbox; have GW269 := geT_ w.heap.size hg; have GE269 := geT_ w.heap.size hg; replace HO0_0 := vE_ HO0_0.out hg hb; replace HO0_1 := vE_ HO0_1.out hg hb; replace HO0_3 := vE_ HO0_3.out hg hb; replace HB := hB_ hb; clear hb hbox hg) | ((with_reducible refine gate_dst (N := 8) rfl ?_); refine bE_ 8 #[.slice none 0 0, .slice none 0 0, .int .u64 0, .slice none 0 0] 29 ?_; intro gb270 hg w15 hbox hb; have BK270 := Aside0.mk hbox; have GW270 := geT_ w.heap.size hg; have GE270 := geT_ w.heap.size hg; have NB269_270 := nlT_ BK269.out hg; have NB270_269 := ngT_ BK269.out hg; replace HO0_0 := vE_ HO0_0.out hg hb; replace HO0_1 := vE_ HO0_1.out hg hb; replace HO0_3 := vE_ HO0_3.out hg hb; replace BK269 := kB_ BK269 hb; replace HB := hB_ hb; clear hb hbox hg) | ((with_reducible refine gate_callee (f := 69) rfl ?_); refine gL_ (some 18) Try.func69 #[.int .u32 a1, .int .u32 a2, .int .i64 a3] ?_; (with_reducible refine (ferryref04_wrong.calls a1 a2 a3 false _ A5.out).mono ?_); rintro e w' ⟨rfl, ⟨nd, rfl⟩⟩; refine ⟨_, rfl, ?_⟩; (try (rw [drewN_self w15]; generalize hq_ : World.drewN w15 _ = w15; replace HO0_0 : Aside0 (Kd.V k83 83 w15 w.heap.size (fun k_ => ((P0_0_ k_ ∨ P0_1_ k_ ∨ P0_3_ k_) ∨ w.heap.size ≤ k_) ∧ k_ ≠ gb269 ∧ k_ ≠ gb270) (.slice A0_0 l0_0.length c0_0) l0_0) := ⟨by rw [← hq_]; exact (vM_ HO0_0.out)⟩; replace HO0_1 : Aside0 (Kd.V k88 88 w15 w.heap.size (fun k_ => ((P0_0_ k_ ∨ P0_1_ k_ ∨ P0_3_ k_) ∨ w.heap.size ≤ k_) ∧ k_ ≠ gb269 ∧ k_ ≠ gb270) (.slice A0_1 l0_1.length c0_1) l0_1) := ⟨by rw [← hq_]; exact (vM_ HO0_1.out)⟩; replace HO0_3 : Aside0 (Kd.V k41 41 w15 w.heap.size (fun k_ => ((P0_0_ k_ ∨ P0_1_ k_ ∨ P0_3_ k_) ∨ w.heap.size ≤ k_) ∧ k_ ≠ gb269 ∧ k_ ≠ gb270) (.slice A0_3 l0_3.length c0_3) l0_3) := ⟨by rw [← hq_]; exact (vM_ HO0_3.out)⟩; replace BK269 : Aside0 (w15.heap[gb269]? = some (.cells #[.slice A0_0 l0_0.length c0_0, .slice A0_1 l0_1.length c0_1, .int .u64 a0_2, .slice A0_3 l0_3.length c0_3] 29 (0, 0))) := ⟨by rw [← hq_]; exact (bT_ BK269.out)⟩; replace BK270 : Aside0 (w15.heap[gb270]? = some (.cells #[.slice none 0 0, .slice none 0 0, .int .u64 0, .slice none 0 0] 29 (0, 0))) := ⟨by rw [← hq_]; exact (bT_ BK270.out)⟩; replace HB : Aside0 (Below w.heap.size w w15) := ⟨by rw [← hq_]; exact beT_⟩; clear hq_)); have hnb16 := NB269_270.out; have hnc16 := NB270_269.out; obtain ⟨hcz17_0, hcz17_1, hcz17_2, hcz17_3, hfz17_0, hfz17_1, hfz17_2, hfz17_3⟩ := b4_ BK269.out) | ((with_reducible refine gate_callee (f := 70) rfl ?_); refine gL_ (some 23) Try.func70 #[.agg #[.slice A0_0 l0_0.length c0_0, .slice A0_1 l0_1.length c0_1, .int .u64 a0_2, .slice A0_3 l0_3.length c0_3], .int .u32 a1, .int .u32 a2] ?_; (with_reducible refine (ferryref04_without.calls k _ _ l0_0 _ _ l0_1 a0_2 _ _ l0_3 a1 a2 t272 _ ?side1 ?side2 ?side3 ?side4 ?side5 ?side6 A12.out).mono ?_); (case side1 => exact cT_ (Kd.V_reads' HO0_0.out).2.2); (case side2 => exact (Kd.V_reads' HO0_0.out).2.1); (case side3 => exact cT_ (Kd.V_reads' HO0_1.out).2.2); (case side4 => exact (Kd.V_reads' HO0_1.out).2.1); (case side5 => exact cT_ (Kd.V_reads' HO0_3.out).2.2); (case side6 => exact (Kd.V_reads' HO0_3.out).2.1); rintro e w18 ⟨v273, rfl, ho0, hb⟩; refine ⟨_, rfl, ?_⟩; have HO274 := Aside0.mk (Kd.R_lower (Kd.R_newM (M := fun k_ => (w.heap.size ≤ k_)) ho0 (below_size beT_) (fun k_ h_ => h_)) (below_size beT_)); replace HO0_0 := Aside0.mk (Kd.V_elder' (vT_ HO0_0.out) (Kd.R_base ho0) hb); replace HO0_1 := Aside0.mk (Kd.V_elder' (vT_ HO0_1.out) (Kd.R_base ho0) hb); replace HO0_3 := Aside0.mk (Kd.V_elder' (vT_ HO0_3.out) (Kd.R_base ho0) hb); replace BK269 := kB_ BK269 hb; replace BK270 := kB_ BK270 hb; replace HB := hB_ hb; (try clear hb); (try clear hb2); (try clear hk); (try clear hi); (try clear ho0); obtain ⟨Ao19, co19, eo19⟩ := Kd.R_slice HO274.out; subst eo19; obtain ⟨hcz20_0, hcz20_1, hcz20_2, hcz20_3, hfz20_0, hfz20_1, hfz20_2, hfz20_3⟩ := b4_ BK269.out; obtain ⟨hcz21_0, hcz21_1, hcz21_2, hcz21_3, hfz21_0, hfz21_1, hfz21_2, hfz21_3⟩ := b4_ BK270.out))
    refine bodyPost_ret (results_ct rfl _ _ gb270 29 #[.slice A0_0 l0_0.length c0_0, .slice A0_1 l0_1.length c0_1, .int .u64 a0_2, .slice A0_3 l0_3.length c0_3] (0, 0) _ rfl (kP_ BK270.out) Try.underlying29 rfl (by kernel_rfl)) rfl ?_
    exact ⟨_, _, _, r3_, (vF_ HO0_0.out), (vF_ HO0_1.out), (vF_ HO0_3.out), beT_⟩
  rw [if_neg c13] at H
  have c13b0 : decide (((wrap64 (256 - (t272.length : Int))) % 4294967296) < a2) = false := decide_eq_false c13
  (try (have c13bs0 := c13b0; simp only [Int.add_emod_emod, Int.emod_add_emod, Int.sub_emod_emod, Int.emod_sub_emod] at c13bs0))
  clear c13
  replace H := Option.bind_eq_some_iff.mp H
  obtain ⟨t276, A220, H⟩ := H
  have A22 := Aside0.mk A220
  clear A220
  have H' := Aside0.mk H
  clear H
  go_enter Try.func38, Try.ntmps38
  go_wp2_with (first | ((with_reducible refine gate_dst (N := 4) rfl ?_); refine bE_ 4 #[.slice A0_0 l0_0.length c0_0, .slice A0_1 l0_1.length c0_1, .int .u64 a0_2, .slice A0_3 l0_3.length c0_3] 29 ?_; intro gb269 hg w23 hbox hb; have BK269 := Aside0.mk hbox; have GW269 := geT_ w.heap.size hg; have GE269 := geT_ w.heap.size hg; replace HO0_0 := vE_ HO0_0.out hg hb; replace HO0_1 := vE_ HO0_1.out hg hb; replace HO0_3 := vE_ HO0_3.out hg hb; replace HB := hB_ hb; clear hb hbox hg) | ((with_reducible refine gate_dst (N := 8) rfl ?_); refine bE_ 8 #[.slice none 0 0, .slice none 0 0, .int .u64 0, .slice none 0 0] 29 ?_; intro gb270 hg w24 hbox hb; have BK270 := Aside0.mk hbox; have GW270 := geT_ w.heap.size hg; have GE270 := geT_ w.heap.size hg; have NB269_270 := nlT_ BK269.out hg; have NB270_269 := ngT_ BK269.out hg; replace HO0_0 := vE_ HO0_0.out hg hb; replace HO0_1 := vE_ HO0_1.out hg hb; replace HO0_3 := vE_ HO0_3.out hg hb; replace BK269 := kB_ BK269 hb; replace HB := hB_ hb; clear hb hbox hg) | ((with_reducible refine gate_callee (f := 69) rfl ?_); refine gL_ (some 18) Try.func69 #[.int .u32 a1, .int .u32 a2, .int .i64 a3] ?_; (with_reducible refine (ferryref04_wrong.calls a1 a2 a3 false _ A5.out).mono ?_); rintro e w' ⟨rfl, ⟨nd, rfl⟩⟩; refine ⟨_, rfl, ?_⟩; (try (rw [drewN_self w24]; generalize hq_ : World.drewN w24 _ = w24; replace HO0_0 : Aside0 (Kd.V k83 83 w24 w.heap.size (fun k_ => ((P0_0_ k_ ∨ P0_1_ k_ ∨ P0_3_ k_) ∨ w.heap.size ≤ k_) ∧ k_ ≠ gb269 ∧ k_ ≠ gb270) (.slice A0_0 l0_0.length c0_0) l0_0) := ⟨by rw [← hq_]; exact (vM_ HO0_0.out)⟩; replace HO0_1 : Aside0 (Kd.V k88 88 w24 w.heap.size (fun k_ => ((P0_0_ k_ ∨ P0_1_ k_ ∨ P0_3_ k_) ∨ w.heap.size ≤ k_) ∧ k_ ≠ gb269 ∧ k_ ≠ gb270) (.slice A0_1 l0_1.length c0_1) l0_1) := ⟨by rw [← hq_]; exact (vM_ HO0_1.out)⟩; replace HO0_3 : Aside0 (Kd.V k41 41 w24 w.heap.size (fun k_ => ((P0_0_ k_ ∨ P0_1_ k_ ∨ P0_3_ k_) ∨ w.heap.size ≤ k_) ∧ k_ ≠ gb269 ∧ k_ ≠ gb270) (.slice A0_3 l0_3.length c0_3) l0_3) := ⟨by rw [← hq_]; exact (vM_ HO0_3.out)⟩; replace BK269 : Aside0 (w24.heap[gb269]? = some (.cells #[.slice A0_0 l0_0.length c0_0, .slice A0_1 l0_1.length c0_1, .int .u64 a0_2, .slice A0_3 l0_3.length c0_3] 29 (0, 0))) := ⟨by rw [← hq_]; exact (bT_ BK269.out)⟩; replace BK270 : Aside0 (w24.heap[gb270]? = some (.cells #[.slice none 0 0, .slice none 0 0, .int .u64 0, .slice none 0 0] 29 (0, 0))) := ⟨by rw [← hq_]; exact (bT_ BK270.out)⟩; replace HB : Aside0 (Below w.heap.size w w24) := ⟨by rw [← hq_]; exact beT_⟩; clear hq_)); have hnb25 := NB269_270.out; have hnc25 := NB270_269.out; obtain ⟨hcz26_0, hcz26_1, hcz26_2, hcz26_3, hfz26_0, hfz26_1, hfz26_2, hfz26_3⟩ := b4_ BK269.out) | ((with_reducible refine gate_callee (f := 70) rfl ?_); refine gL_ (some 23) Try.func70 #[.agg #[.slice A0_0 l0_0.length c0_0, .slice A0_1 l0_1.length c0_1, .int .u64 a0_2, .slice A0_3 l0_3.length c0_3], .int .u32 a1, .int .u32 a2] ?_; (with_reducible refine (ferryref04_without.calls k _ _ l0_0 _ _ l0_1 a0_2 _ _ l0_3 a1 a2 t272 _ ?side1 ?side2 ?side3 ?side4 ?side5 ?side6 A12.out).mono ?_); (case side1 => exact cT_ (Kd.V_reads' HO0_0.out).2.2); (case side2 => exact (Kd.V_reads' HO0_0.out).2.1); (case side3 => exact cT_ (Kd.V_reads' HO0_1.out).2.2); (case side4 => exact (Kd.V_reads' HO0_1.out).2.1); (case side5 => exact cT_ (Kd.V_reads' HO0_3.out).2.2); (case side6 => exact (Kd.V_reads' HO0_3.out).2.1); rintro e w27 ⟨v273, rfl, ho0, hb⟩; refine ⟨_, rfl, ?_⟩; have HO274 := Aside0.mk (Kd.R_lower (Kd.R_newM (M := fun k_ => (w.heap.size ≤ k_)) ho0 (below_size beT_) (fun k_ h_ => h_)) (below_size beT_)); replace HO0_0 := Aside0.mk (Kd.V_elder' (vT_ HO0_0.out) (Kd.R_base ho0) hb); replace HO0_1 := Aside0.mk (Kd.V_elder' (vT_ HO0_1.out) (Kd.R_base ho0) hb); replace HO0_3 := Aside0.mk (Kd.V_elder' (vT_ HO0_3.out) (Kd.R_base ho0) hb); replace BK269 := kB_ BK269 hb; replace BK270 := kB_ BK270 hb; replace HB := hB_ hb; (try clear hb); (try clear hb2); (try clear hk); (try clear hi); (try clear ho0); obtain ⟨Ao28, co28, eo28⟩ := Kd.R_slice HO274.out; subst eo28; obtain ⟨hcz29_0, hcz29_1, hcz29_2, hcz29_3, hfz29_0, hfz29_1, hfz29_2, hfz29_3⟩ := b4_ BK269.out) | ((with_reducible refine gate_dst (N := 11) rfl ?_); refine bE_ 11 #[.slice none 0 0, .slice none 0 0] 25 ?_; intro gb275 hg w30 hbox hb; have BK275 := Aside0.mk hbox; have GW275 := geT_ w.heap.size hg; have GE275 := geT_ w.heap.size hg; have NB269_275 := nlT_ BK269.out hg; have NB275_269 := ngT_ BK269.out hg; have NB270_275 := nlT_ BK270.out hg; have NB275_270 := ngT_ BK270.out hg; replace HO0_0 := vE_ HO0_0.out hg hb; replace HO0_1 := vE_ HO0_1.out hg hb; replace HO0_3 := vE_ HO0_3.out hg hb; replace HO274 := rB_ HO274.out hb; replace BK269 := kB_ BK269 hb; replace BK270 := kB_ BK270 hb; replace HB := hB_ hb; clear hb hbox hg; have hnb31 := NB275_269.out; have hnc31 := NB269_275.out; have hnb32 := NB275_270.out; have hnc32 := NB270_275.out; obtain ⟨hcz33_0, hcz33_1, hfz33_0, hfz33_1⟩ := b2_ BK275.out; obtain ⟨hcz34_0, hcz34_1, hcz34_2, hcz34_3, hfz34_0, hfz34_1, hfz34_2, hfz34_3⟩ := b4_ BK269.out) | ((with_reducible refine gate_callee (f := 71) rfl ?_); refine gL_ (some 35) Try.func71 #[.agg #[.slice A0_0 l0_0.length c0_0, .slice A0_1 l0_1.length c0_1, .int .u64 a0_2, .slice A0_3 l0_3.length c0_3], .int .u32 a1] ?_; (with_reducible refine (ferryref04_hostPage.calls _ _ l0_0 _ _ l0_1 a0_2 _ _ l0_3 a1 t276 _ ?side1 ?side2 ?side3 ?side4 ?side5 ?side6 A22.out).mono ?_); (case side1 => refine (Kd.V_reads' (e := 83) (base := w.heap.size) (ok := fun _ => True) (n := l0_0.length) (c := c0_0) ?_).2.2; exact (by (with_reducible repeat (first | apply Kd.V_alloc | apply Kd.V_drewN | apply Kd.V_drew)); exact (Kd.V_mono (Kd.V_far (p := ⟨gb275, 1, none⟩) (Kd.V_far (p := ⟨gb275, 0, none⟩) (Kd.V_mono HO0_0.out (fun k_ hk => (⟨hk, by first | exact hk.2 | exact hk.2.1 | exact hk.2.2| omega | grind⟩ : _ ∧ k_ ≠ gb275))) (fun _ hk => by first | exact hk.2 | grind) (.slice A0_0 l0_0.length c0_0)) (fun _ hk => by first | exact hk.2 | grind) (.slice A0_1 l0_1.length c0_1)) (fun _ _ => trivial)))); (case side2 => exact (Kd.V_reads' HO0_0.out).2.1); (case side3 => refine (Kd.V_reads' (e := 88) (base := w.heap.size) (ok := fun _ => True) (n := l0_1.length) (c := c0_1) ?_).2.2; exact (by (with_reducible repeat (first | apply Kd.V_alloc | apply Kd.V_drewN | apply Kd.V_drew)); exact (Kd.V_mono (Kd.V_far (p := ⟨gb275, 1, none⟩) (Kd.V_far (p := ⟨gb275, 0, none⟩) (Kd.V_mono HO0_1.out (fun k_ hk => (⟨hk, by first | exact hk.2 | exact hk.2.1 | exact hk.2.2| omega | grind⟩ : _ ∧ k_ ≠ gb275))) (fun _ hk => by first | exact hk.2 | grind) (.slice A0_0 l0_0.length c0_0)) (fun _ hk => by first | exact hk.2 | grind) (.slice A0_1 l0_1.length c0_1)) (fun _ _ => trivial)))); (case side4 => exact (Kd.V_reads' HO0_1.out).2.1); (case side5 => refine (Kd.V_reads' (e := 41) (base := w.heap.size) (ok := fun _ => True) (n := l0_3.length) (c := c0_3) ?_).2.2; exact (by (with_reducible repeat (first | apply Kd.V_alloc | apply Kd.V_drewN | apply Kd.V_drew)); exact (Kd.V_mono (Kd.V_far (p := ⟨gb275, 1, none⟩) (Kd.V_far (p := ⟨gb275, 0, none⟩) (Kd.V_mono HO0_3.out (fun k_ hk => (⟨hk, by first | exact hk.2 | exact hk.2.1 | exact hk.2.2| omega | grind⟩ : _ ∧ k_ ≠ gb275))) (fun _ hk => by first | exact hk.2 | grind) (.slice A0_0 l0_0.length c0_0)) (fun _ hk => by first | exact hk.2 | grind) (.slice A0_1 l0_1.length c0_1)) (fun _ _ => trivial)))); (case side6 => exact (Kd.V_reads' HO0_3.out).2.1); rintro e w35 ⟨rfl, hb⟩; refine ⟨_, rfl, ?_⟩; replace HO0_0 := Aside0.mk (Kd.V_below (by (with_reducible repeat (first | apply Kd.V_alloc | apply Kd.V_drewN | apply Kd.V_drew)); exact (Kd.V_mono (Kd.V_far (p := ⟨gb275, 1, none⟩) (Kd.V_far (p := ⟨gb275, 0, none⟩) (Kd.V_mono HO0_0.out (fun k_ hk => (⟨hk, by first | exact hk.2 | exact hk.2.1 | exact hk.2.2| omega | grind⟩ : _ ∧ k_ ≠ gb275))) (fun _ hk => by first | exact hk.2 | grind) (.slice A0_0 l0_0.length c0_0)) (fun _ hk => by first | exact hk.2 | grind) (.slice A0_1 l0_1.length c0_1)) (fun _ h_ => h_.1))) hb); replace HO0_1 := Aside0.mk (Kd.V_below (by (with_reducible repeat (first | apply Kd.V_alloc | apply Kd.V_drewN | apply Kd.V_drew)); exact (Kd.V_mono (Kd.V_far (p := ⟨gb275, 1, none⟩) (Kd.V_far (p := ⟨gb275, 0, none⟩) (Kd.V_mono HO0_1.out (fun k_ hk => (⟨hk, by first | exact hk.2 | exact hk.2.1 | exact hk.2.2| omega | grind⟩ : _ ∧ k_ ≠ gb275))) (fun _ hk => by first | exact hk.2 | grind) (.slice A0_0 l0_0.length c0_0)) (fun _ hk => by first | exact hk.2 | grind) (.slice A0_1 l0_1.length c0_1)) (fun _ h_ => h_.1))) hb); replace HO0_3 := Aside0.mk (Kd.V_below (by (with_reducible repeat (first | apply Kd.V_alloc | apply Kd.V_drewN | apply Kd.V_drew)); exact (Kd.V_mono (Kd.V_far (p := ⟨gb275, 1, none⟩) (Kd.V_far (p := ⟨gb275, 0, none⟩) (Kd.V_mono HO0_3.out (fun k_ hk => (⟨hk, by first | exact hk.2 | exact hk.2.1 | exact hk.2.2| omega | grind⟩ : _ ∧ k_ ≠ gb275))) (fun _ hk => by first | exact hk.2 | grind) (.slice A0_0 l0_0.length c0_0)) (fun _ hk => by first | exact hk.2 | grind) (.slice A0_1 l0_1.length c0_1)) (fun _ h_ => h_.1))) hb); replace HO274 := Aside0.mk (Kd.R_below (by (with_reducible repeat (first | apply Kd.R_alloc | apply Kd.R_drewN | apply Kd.R_drew)); exact (Kd.R_mono (Kd.R_far (p := ⟨gb275, 1, none⟩) (Kd.R_far (p := ⟨gb275, 0, none⟩) (Kd.R_types HO274.out BK275.out (by decide)) (fun _ hk => by first | exact hk.2 | grind) (.slice A0_0 l0_0.length c0_0)) (fun _ hk => by first | exact hk.2 | grind) (.slice A0_1 l0_1.length c0_1)) (fun _ h_ => h_.1))) hb); replace BK269 := kB_ BK269 hb; replace BK270 := kB_ BK270 hb; replace BK275 := Aside0.mk (blk_below (g := gb275) (o := .cells #[.slice A0_0 l0_0.length c0_0, .slice A0_1 l0_1.length c0_1] 25 (0, 0)) (kP_ BK275.out) hb); replace HB := hB_ hb; (try clear hb); (try clear hb2); (try clear hk); (try clear hi)))
  go_loopg [12] k (fun kq v12 w' => ∃ (x12_1 : Int) (x271002_1 : Int) (x276000_1 : List (S83)) (x276001_1 : List (S88)) (u276000 : Value) (u276001 : Value), v12 = .int .u64 x12_1 ∧ Aside0 (ferryref04_Map.l0 kq a1 a2 a3 t272 x12_1 l0_0 l0_1 a0_2 l0_3 x276000_1 x276001_1 = some (r1, r2, r3, r4, r5)) ∧ Aside0 (kq ≤ k) ∧ Aside0 (Kd.R k41 41 w' w.heap.size (fun k_ => (w.heap.size ≤ k_)) (.slice Ao28 t272.length co28) t272) ∧ Aside0 (Kd.V k83 83 w' w.heap.size (fun k_ => ((P0_0_ k_ ∨ P0_1_ k_ ∨ P0_3_ k_) ∨ w.heap.size ≤ k_) ∧ some k_ ≠ ((.slice Ao28 t272.length co28) : Value).ownBlock ∧ k_ ≠ gb269 ∧ k_ ≠ gb270 ∧ k_ ≠ gb275) (.slice A0_0 l0_0.length c0_0) l0_0) ∧ Aside0 (Kd.V k88 88 w' w.heap.size (fun k_ => ((P0_0_ k_ ∨ P0_1_ k_ ∨ P0_3_ k_) ∨ w.heap.size ≤ k_) ∧ some k_ ≠ ((.slice Ao28 t272.length co28) : Value).ownBlock ∧ k_ ≠ gb269 ∧ k_ ≠ gb270 ∧ k_ ≠ gb275) (.slice A0_1 l0_1.length c0_1) l0_1) ∧ Aside0 (Kd.V k41 41 w' w.heap.size (fun k_ => ((P0_0_ k_ ∨ P0_1_ k_ ∨ P0_3_ k_) ∨ w.heap.size ≤ k_) ∧ some k_ ≠ ((.slice Ao28 t272.length co28) : Value).ownBlock ∧ k_ ≠ gb269 ∧ k_ ≠ gb270 ∧ k_ ≠ gb275) (.slice A0_3 l0_3.length c0_3) l0_3) ∧ Aside0 (Kd.V k83 83 w' w.heap.size (fun k_ => ((P0_0_ k_ ∨ P0_1_ k_ ∨ P0_3_ k_) ∨ w.heap.size ≤ k_) ∧ some k_ ≠ ((.slice Ao28 t272.length co28) : Value).ownBlock ∧ k_ ≠ gb269 ∧ k_ ≠ gb270 ∧ k_ ≠ gb275) u276000 x276000_1) ∧ Aside0 (Kd.V k88 88 w' w.heap.size (fun k_ => ((P0_0_ k_ ∨ P0_1_ k_ ∨ P0_3_ k_) ∨ w.heap.size ≤ k_) ∧ some k_ ≠ ((.slice Ao28 t272.length co28) : Value).ownBlock ∧ k_ ≠ gb269 ∧ k_ ≠ gb270 ∧ k_ ≠ gb275) u276001 x276001_1) ∧ Aside0 (w'.heap[gb269]? = some (.cells #[(.slice A0_0 l0_0.length c0_0), (.slice A0_1 l0_1.length c0_1), .int .u64 a0_2, (.slice A0_3 l0_3.length c0_3)] 29 (0, 0))) ∧ Aside0 (w'.heap[gb270]? = some (.cells #[(.slice none 0 0), (.slice none 0 0), .int .u64 x271002_1, (.slice none 0 0)] 29 (0, 0))) ∧ Aside0 (w'.heap[gb275]? = some (.cells #[u276000, u276001] 25 (0, 0))) ∧ Aside0 (Below w.heap.size w w'))
  case atStart => exact ⟨(t276), (0), (l0_0), (l0_1), (.slice A0_0 l0_0.length c0_0), (.slice A0_1 l0_1.length c0_1), r1_, H', ⟨Nat.le_refl _⟩, ⟨rM_ HO274.out⟩, ⟨vM_ HO0_0.out⟩, ⟨vM_ HO0_1.out⟩, ⟨vM_ HO0_3.out⟩, ⟨vM_ HO0_0.out⟩, ⟨vM_ HO0_1.out⟩, ⟨bT_ BK269.out⟩, ⟨bT_ BK270.out⟩, ⟨bT_ BK275.out⟩, ⟨beT_⟩⟩
  case round =>
    clear H'
    try clear c1
    try clear c2
    try clear p2
    try clear c3
    try clear c6
    try clear p6
    try clear c7
    try clear c9
    try clear c13
    try clear c13b0
    try clear c16
    try clear c25
    try clear c31
    try clear c32
    try clear hcz10_0
    try clear hcz10_1
    try clear hcz10_2
    try clear hcz10_3
    try clear hcz11_0
    try clear hcz11_1
    try clear hcz11_2
    try clear hcz11_3
    try clear hcz17_0
    try clear hcz17_1
    try clear hcz17_2
    try clear hcz17_3
    try clear hcz20_0
    try clear hcz20_1
    try clear hcz20_2
    try clear hcz20_3
    try clear hcz21_0
    try clear hcz21_1
    try clear hcz21_2
    try clear hcz21_3
    try clear hcz26_0
    try clear hcz26_1
    try clear hcz26_2
    try clear hcz26_3
    try clear hcz29_0
    try clear hcz29_1
    try clear hcz29_2
    try clear hcz29_3
    try clear hcz33_0
    try clear hcz33_1
    try clear hcz34_0
    try clear hcz34_1
    try clear hcz34_2
    try clear hcz34_3
    try clear hfz10_0
    try clear hfz10_1
    try clear hfz10_2
    try clear hfz10_3
    try clear hfz11_0
    try clear hfz11_1
    try clear hfz11_2
    try clear hfz11_3
    try clear hfz17_0
    try clear hfz17_1
    try clear hfz17_2
    try clear hfz17_3
    try clear hfz20_0
    try clear hfz20_1
    try clear hfz20_2
    try clear hfz20_3
    try clear hfz21_0
    try clear hfz21_1
    try clear hfz21_2
    try clear hfz21_3
    try clear hfz26_0
    try clear hfz26_1
    try clear hfz26_2
    try clear hfz26_3
    try clear hfz29_0
    try clear hfz29_1
    try clear hfz29_2
    try clear hfz29_3
    try clear hfz33_0
    try clear hfz33_1
    try clear hfz34_0
    try clear hfz34_1
    try clear hfz34_2
    try clear hfz34_3
    obtain ⟨x12_1, x271002_1, x276000_1, x276001_1, u276000, u276001, rfl, HA, HK1, HO_10, HO_270000, HO_270001, HO_270003, HO_276000, HO_276001, BK269, BK270, BK275, HB⟩ := hrel
    cases gk with
    | zero => exact absurd HA.out (by simp [ferryref04_Map.l0])
    | succ k1 =>
      have H := HA.out
      clear HA
      simp only [ferryref04_Map.l0] at H
      replace H := Option.bind_eq_some_iff.mp H
      obtain ⟨t277, A360, H⟩ := H
      have A36 := Aside0.mk A360
      clear A360
      by_cases c37 : x12_1 ≤ t277
      · rw [if_pos c37] at H
        have c37b0 : decide (x12_1 ≤ t277) = true := decide_eq_true c37
        clear c37
        replace H := Option.bind_eq_some_iff.mp H
        obtain ⟨t288, A380, H⟩ := H
        have A38 := Aside0.mk A380
        clear A380
        by_cases c39 : t288 = true
        · subst c39
          replace H := hP_ H
          have H' := Aside0.mk H
          clear H
          have hnb40 := NB269_270.out
          have hnc40 := NB270_269.out
          have hnb41 := NB269_275.out
          have hnc41 := NB275_269.out
          obtain ⟨hcz42_0, hcz42_1, hcz42_2, hcz42_3, hfz42_0, hfz42_1, hfz42_2, hfz42_3⟩ := b4_ BK269.out
          go_wp2_with (first | ((with_reducible refine gate_callee (f := 71) rfl ?_); refine gL_ (some 42) Try.func71 #[.agg #[.slice A0_0 l0_0.length c0_0, .slice A0_1 l0_1.length c0_1, .int .u64 a0_2, .slice A0_3 l0_3.length c0_3], .int .u32 ((((a1 + a2) % 4294967296) - 1) % 4294967296)] ?_; (with_reducible refine (ferryref04_hostPage.calls _ _ l0_0 _ _ l0_1 a0_2 _ _ l0_3 ((((a1 + a2) % 4294967296) - 1) % 4294967296) t277 _ ?side1 ?side2 ?side3 ?side4 ?side5 ?side6 A36.out).mono ?_); (case side1 => exact cT_ (Kd.V_reads' HO_270000.out).2.2); (case side2 => exact (Kd.V_reads' HO_270000.out).2.1); (case side3 => exact cT_ (Kd.V_reads' HO_270001.out).2.2); (case side4 => exact (Kd.V_reads' HO_270001.out).2.1); (case side5 => exact cT_ (Kd.V_reads' HO_270003.out).2.2); (case side6 => exact (Kd.V_reads' HO_270003.out).2.1); rintro e w43 ⟨rfl, hb⟩; refine ⟨_, rfl, ?_⟩; replace HO_10 := rB_ HO_10.out hb; replace HO_270000 := vB_ HO_270000.out hb; replace HO_270001 := vB_ HO_270001.out hb; replace HO_270003 := vB_ HO_270003.out hb; replace HO_276000 := vB_ HO_276000.out hb; replace HO_276001 := vB_ HO_276001.out hb; replace BK269 := kB_ BK269 hb; replace BK270 := kB_ BK270 hb; replace BK275 := kB_ BK275 hb; replace HB := hB_ hb; (try clear hb); (try clear hb2); (try clear hk); (try clear hi); obtain ⟨hcz44_0, hcz44_1, hcz44_2, hcz44_3, hfz44_0, hfz44_1, hfz44_2, hfz44_3⟩ := b4_ BK269.out) | ((with_reducible refine gate_callee (f := 47) rfl ?_); refine gL_ (some 48) Try.func47 #[.agg #[.slice A0_0 l0_0.length c0_0, .slice A0_1 l0_1.length c0_1, .int .u64 a0_2, .slice A0_3 l0_3.length c0_3], .int .u64 x12_1] ?_; (with_reducible refine (ferryref04_used.calls k1 _ _ l0_0 _ _ l0_1 a0_2 _ _ l0_3 x12_1 true _ ?side1 ?side2 ?side3 ?side4 ?side5 ?side6 A38.out).mono ?_); (case side1 => exact cT_ (Kd.V_reads' HO_270000.out).2.2); (case side2 => exact (Kd.V_reads' HO_270000.out).2.1); (case side3 => exact cT_ (Kd.V_reads' HO_270001.out).2.2); (case side4 => exact (Kd.V_reads' HO_270001.out).2.1); (case side5 => exact cT_ (Kd.V_reads' HO_270003.out).2.2); (case side6 => exact (Kd.V_reads' HO_270003.out).2.1); rintro e w45 ⟨rfl, hb⟩; refine ⟨_, rfl, ?_⟩; replace HO_10 := rB_ HO_10.out hb; replace HO_270000 := vB_ HO_270000.out hb; replace HO_270001 := vB_ HO_270001.out hb; replace HO_270003 := vB_ HO_270003.out hb; replace HO_276000 := vB_ HO_276000.out hb; replace HO_276001 := vB_ HO_276001.out hb; replace BK269 := kB_ BK269 hb; replace BK270 := kB_ BK270 hb; replace BK275 := kB_ BK275 hb; replace HB := hB_ hb; (try clear hb); (try clear hb2); (try clear hk); (try clear hi)))
          go_roundg k1
          case measure => have := HK1.out; omega
          case rel => exact ⟨(IntKind.u64.wrap (x12_1 + 1)), (x271002_1), (x276000_1), (x276001_1), (u276000), (u276001), r1_, H', ⟨by have := HK1.out; omega⟩, ⟨rT_ HO_10.out⟩, ⟨vT_ HO_270000.out⟩, ⟨vT_ HO_270001.out⟩, ⟨vT_ HO_270003.out⟩, ⟨vT_ HO_276000.out⟩, ⟨vT_ HO_276001.out⟩, ⟨bT_ BK269.out⟩, ⟨bT_ BK270.out⟩, ⟨bT_ BK275.out⟩, ⟨beT_⟩⟩
        replace c39 := Bool.eq_false_iff.mpr c39
        subst c39
        replace H := hN_ H
        replace H := Option.bind_eq_some_iff.mp H
        obtain ⟨⟨t289, t292, t295⟩, A460, H⟩ := H
        have A46 := Aside0.mk A460
        clear A460
        by_cases c47 : t295 = 0
        · rw [if_pos c47] at H
          have c47b0 : (t295 == 0) = true := beq_iff_eq.mpr c47
          have c47b1 : (t295 != 0) = false := bne_eq_false_iff_eq.mpr c47
          clear c47
          have H' := Aside0.mk H
          clear H
          have hnb48 := NB269_270.out
          have hnc48 := NB270_269.out
          have hnb49 := NB269_275.out
          have hnc49 := NB275_269.out
          obtain ⟨hcz50_0, hcz50_1, hcz50_2, hcz50_3, hfz50_0, hfz50_1, hfz50_2, hfz50_3⟩ := b4_ BK269.out
          go_wp2_with (first | ((with_reducible refine gate_callee (f := 71) rfl ?_); refine gL_ (some 42) Try.func71 #[.agg #[.slice A0_0 l0_0.length c0_0, .slice A0_1 l0_1.length c0_1, .int .u64 a0_2, .slice A0_3 l0_3.length c0_3], .int .u32 ((((a1 + a2) % 4294967296) - 1) % 4294967296)] ?_; (with_reducible refine (ferryref04_hostPage.calls _ _ l0_0 _ _ l0_1 a0_2 _ _ l0_3 ((((a1 + a2) % 4294967296) - 1) % 4294967296) t277 _ ?side1 ?side2 ?side3 ?side4 ?side5 ?side6 A36.out).mono ?_); (case side1 => exact cT_ (Kd.V_reads' HO_270000.out).2.2); (case side2 => exact (Kd.V_reads' HO_270000.out).2.1); (case side3 => exact cT_ (Kd.V_reads' HO_270001.out).2.2); (case side4 => exact (Kd.V_reads' HO_270001.out).2.1); (case side5 => exact cT_ (Kd.V_reads' HO_270003.out).2.2); (case side6 => exact (Kd.V_reads' HO_270003.out).2.1); rintro e w51 ⟨rfl, hb⟩; refine ⟨_, rfl, ?_⟩; replace HO_10 := rB_ HO_10.out hb; replace HO_270000 := vB_ HO_270000.out hb; replace HO_270001 := vB_ HO_270001.out hb; replace HO_270003 := vB_ HO_270003.out hb; replace HO_276000 := vB_ HO_276000.out hb; replace HO_276001 := vB_ HO_276001.out hb; replace BK269 := kB_ BK269 hb; replace BK270 := kB_ BK270 hb; replace BK275 := kB_ BK275 hb; replace HB := hB_ hb; (try clear hb); (try clear hb2); (try clear hk); (try clear hi); obtain ⟨hcz52_0, hcz52_1, hcz52_2, hcz52_3, hfz52_0, hfz52_1, hfz52_2, hfz52_3⟩ := b4_ BK269.out) | ((with_reducible refine gate_callee (f := 47) rfl ?_); refine gL_ (some 48) Try.func47 #[.agg #[.slice A0_0 l0_0.length c0_0, .slice A0_1 l0_1.length c0_1, .int .u64 a0_2, .slice A0_3 l0_3.length c0_3], .int .u64 x12_1] ?_; (with_reducible refine (ferryref04_used.calls k1 _ _ l0_0 _ _ l0_1 a0_2 _ _ l0_3 x12_1 false _ ?side1 ?side2 ?side3 ?side4 ?side5 ?side6 A38.out).mono ?_); (case side1 => exact cT_ (Kd.V_reads' HO_270000.out).2.2); (case side2 => exact (Kd.V_reads' HO_270000.out).2.1); (case side3 => exact cT_ (Kd.V_reads' HO_270001.out).2.2); (case side4 => exact (Kd.V_reads' HO_270001.out).2.1); (case side5 => exact cT_ (Kd.V_reads' HO_270003.out).2.2); (case side6 => exact (Kd.V_reads' HO_270003.out).2.1); rintro e w53 ⟨rfl, hb⟩; refine ⟨_, rfl, ?_⟩; replace HO_10 := rB_ HO_10.out hb; replace HO_270000 := vB_ HO_270000.out hb; replace HO_270001 := vB_ HO_270001.out hb; replace HO_270003 := vB_ HO_270003.out hb; replace HO_276000 := vB_ HO_276000.out hb; replace HO_276001 := vB_ HO_276001.out hb; replace BK269 := kB_ BK269 hb; replace BK270 := kB_ BK270 hb; replace BK275 := kB_ BK275 hb; replace HB := hB_ hb; (try clear hb); (try clear hb2); (try clear hk); (try clear hi); have hnb54 := NB275_270.out; have hnc54 := NB270_275.out; obtain ⟨hcz55_0, hcz55_1, hfz55_0, hfz55_1⟩ := b2_ BK275.out; obtain ⟨Ao56, co56, eo56⟩ := Kd.V_slice HO_276000.out; subst eo56; obtain ⟨Ao57, co57, eo57⟩ := Kd.V_slice HO_276001.out; subst eo57) | ((with_reducible refine gate_callee (f := 72) rfl ?_); refine gL_ (some 52) Try.func72 #[.agg #[.slice Ao56 x276000_1.length co56, .slice Ao57 x276001_1.length co57], .int .u64 x12_1, .int .u64 1, .int .i64 3] ?_; (with_reducible refine (ferryref03_Map.calls k1 (fun k_ => (((P0_0_ k_ ∨ P0_1_ k_ ∨ P0_3_ k_) ∨ w.heap.size ≤ k_) ∧ (some k_ ≠ (.slice Ao28 t272.length co28 : Value).ownBlock ∧ (k_ ≠ gb269 ∧ (k_ ≠ gb270 ∧ k_ ≠ gb275))))) _ _ x276000_1 (fun k_ => (((P0_0_ k_ ∨ P0_1_ k_ ∨ P0_3_ k_) ∨ w.heap.size ≤ k_) ∧ (some k_ ≠ (.slice Ao28 t272.length co28 : Value).ownBlock ∧ (k_ ≠ gb269 ∧ (k_ ≠ gb270 ∧ k_ ≠ gb275))))) _ _ x276001_1 x12_1 1 3 t289 t292 t295 _ ?side1 ?side2 A46.out).mono ?_); (case side1 => first | exact HO_276000.out | exact Kd.V_mono HO_276000.out (fun _ hk => by grind)); (case side2 => first | exact HO_276001.out | exact Kd.V_mono HO_276001.out (fun _ hk => by grind)); rintro e w58 ⟨v290, v293, rfl, ho0, ho1, hb⟩; refine ⟨_, rfl, ?_⟩; have HO291 := Aside0.mk (Kd.V_lower (Kd.V_mono (ok' := fun k_ => ((P0_0_ k_ ∨ P0_1_ k_ ∨ P0_3_ k_) ∨ w.heap.size ≤ k_) ∧ some k_ ≠ (.slice Ao28 t272.length co28 : Value).ownBlock ∧ k_ ≠ gb269 ∧ k_ ≠ gb270 ∧ k_ ≠ gb275) ho0 (fun k_ hk_ => ⟨Or.elim hk_ (fun hs_ => Or.elim hs_ (fun hs_ => hs_.1) (fun hs_ => hs_.1)) (fun hn_ => (.inr (Nat.le_trans (below_size beT_) hn_))), Or.elim hk_ (fun hs_ => Or.elim hs_ (fun hs_ => hs_.2.1) (fun hs_ => hs_.2.1)) (fun hn_ => (Kd.fresh' (Kd.R_lt (rT_ HO_10.out)) k_ hn_)), Or.elim hk_ (fun hs_ => Or.elim hs_ (fun hs_ => hs_.2.2.1) (fun hs_ => hs_.2.2.1)) (fun hn_ => (Kd.freshB (g := gb269) (o := .cells #[.slice A0_0 l0_0.length c0_0, .slice A0_1 l0_1.length c0_1, .int .u64 a0_2, .slice A0_3 l0_3.length c0_3] 29 (0, 0)) (bT_ BK269.out) k_ hn_)), Or.elim hk_ (fun hs_ => Or.elim hs_ (fun hs_ => hs_.2.2.2.1) (fun hs_ => hs_.2.2.2.1)) (fun hn_ => (Kd.freshB (g := gb270) (o := .cells #[.slice none 0 0, .slice none 0 0, .int .u64 x271002_1, .slice none 0 0] 29 (0, 0)) (bT_ BK270.out) k_ hn_)), Or.elim hk_ (fun hs_ => Or.elim hs_ (fun hs_ => hs_.2.2.2.2) (fun hs_ => hs_.2.2.2.2)) (fun hn_ => (Kd.freshB (g := gb275) (o := .cells #[.slice Ao56 x276000_1.length co56, .slice Ao57 x276001_1.length co57] 25 (0, 0)) (bT_ BK275.out) k_ hn_))⟩)) (below_size beT_)); have HO294 := Aside0.mk (Kd.V_lower (Kd.V_mono (ok' := fun k_ => ((P0_0_ k_ ∨ P0_1_ k_ ∨ P0_3_ k_) ∨ w.heap.size ≤ k_) ∧ some k_ ≠ (.slice Ao28 t272.length co28 : Value).ownBlock ∧ k_ ≠ gb269 ∧ k_ ≠ gb270 ∧ k_ ≠ gb275) ho1 (fun k_ hk_ => ⟨Or.elim hk_ (fun hs_ => Or.elim hs_ (fun hs_ => hs_.1) (fun hs_ => hs_.1)) (fun hn_ => (.inr (Nat.le_trans (below_size beT_) hn_))), Or.elim hk_ (fun hs_ => Or.elim hs_ (fun hs_ => hs_.2.1) (fun hs_ => hs_.2.1)) (fun hn_ => (Kd.fresh' (Kd.R_lt (rT_ HO_10.out)) k_ hn_)), Or.elim hk_ (fun hs_ => Or.elim hs_ (fun hs_ => hs_.2.2.1) (fun hs_ => hs_.2.2.1)) (fun hn_ => (Kd.freshB (g := gb269) (o := .cells #[.slice A0_0 l0_0.length c0_0, .slice A0_1 l0_1.length c0_1, .int .u64 a0_2, .slice A0_3 l0_3.length c0_3] 29 (0, 0)) (bT_ BK269.out) k_ hn_)), Or.elim hk_ (fun hs_ => Or.elim hs_ (fun hs_ => hs_.2.2.2.1) (fun hs_ => hs_.2.2.2.1)) (fun hn_ => (Kd.freshB (g := gb270) (o := .cells #[.slice none 0 0, .slice none 0 0, .int .u64 x271002_1, .slice none 0 0] 29 (0, 0)) (bT_ BK270.out) k_ hn_)), Or.elim hk_ (fun hs_ => Or.elim hs_ (fun hs_ => hs_.2.2.2.2) (fun hs_ => hs_.2.2.2.2)) (fun hn_ => (Kd.freshB (g := gb275) (o := .cells #[.slice Ao56 x276000_1.length co56, .slice Ao57 x276001_1.length co57] 25 (0, 0)) (bT_ BK275.out) k_ hn_))⟩)) (below_size beT_)); replace HO_10 := rB_ HO_10.out hb; replace HO_270000 := vB_ HO_270000.out hb; replace HO_270001 := vB_ HO_270001.out hb; replace HO_270003 := vB_ HO_270003.out hb; replace HO_276000 := vB_ HO_276000.out hb; replace HO_276001 := vB_ HO_276001.out hb; replace BK269 := kB_ BK269 hb; replace BK270 := kB_ BK270 hb; replace BK275 := kB_ BK275 hb; replace HB := hB_ hb; (try clear hb); (try clear hb2); (try clear hk); (try clear hi); (try clear ho0); (try clear ho1)) | ((with_reducible refine gate_dst (N := 13) rfl ?_); refine bE_ 13 #[.slice none 0 0, .slice none 0 0] 25 ?_; intro gb296 hg w59 hbox hb; have BK296 := Aside0.mk hbox; have GW296 := geT_ w.heap.size hg; have GE296 := geT_ w.heap.size hg; have NB269_296 := nlT_ BK269.out hg; have NB296_269 := ngT_ BK269.out hg; have NB270_296 := nlT_ BK270.out hg; have NB296_270 := ngT_ BK270.out hg; have NB275_296 := nlT_ BK275.out hg; have NB296_275 := ngT_ BK275.out hg; replace HO_10 := rB_ HO_10.out hb; replace HO_270000 := vE_ HO_270000.out hg hb; replace HO_270001 := vE_ HO_270001.out hg hb; replace HO_270003 := vE_ HO_270003.out hg hb; replace HO_276000 := vE_ HO_276000.out hg hb; replace HO_276001 := vE_ HO_276001.out hg hb; replace HO291 := vE_ HO291.out hg hb; replace HO294 := vE_ HO294.out hg hb; replace BK269 := kB_ BK269 hb; replace BK270 := kB_ BK270 hb; replace BK275 := kB_ BK275 hb; replace HB := hB_ hb; clear hb hbox hg; obtain ⟨Ao60, co60, eo60⟩ := Kd.V_slice HO291.out; subst eo60; have hnb61 := NB296_269.out; have hnc61 := NB269_296.out; have hnb62 := NB296_270.out; have hnc62 := NB270_296.out; have hnb63 := NB296_275.out; have hnc63 := NB275_296.out; obtain ⟨hcz64_0, hcz64_1, hfz64_0, hfz64_1⟩ := b2_ BK296.out; obtain ⟨Ao65, co65, eo65⟩ := Kd.V_slice HO294.out; subst eo65; obtain ⟨hcz66_0, hcz66_1, hfz66_0, hfz66_1⟩ := b2_ BK275.out))
          go_roundg k1
          case measure => have := HK1.out; omega
          case rel => exact ⟨(IntKind.u64.wrap (x12_1 + 1)), (x271002_1), (t289), (t292), (.slice Ao60 t289.length co60), (.slice Ao65 t292.length co65), r1_, H', ⟨by have := HK1.out; omega⟩, ⟨by (with_reducible repeat (first | apply Kd.R_alloc | apply Kd.R_drewN | apply Kd.R_drew)); exact Kd.R_mono (Kd.R_far (p := ⟨gb275, 1, none⟩) (Kd.R_far (p := ⟨gb275, 0, none⟩) (Kd.R_far (p := ⟨gb296, 1, none⟩) (Kd.R_far (p := ⟨gb296, 0, none⟩) (Kd.R_types (Kd.R_types HO_10.out BK296.out (by decide)) BK275.out (by decide)) (fun _ hk => by first | exact hk.1.2 | grind) (.slice Ao60 t289.length co60)) (fun _ hk => by first | exact hk.1.2 | grind) (.slice Ao65 t292.length co65)) (fun _ hk => by first | exact hk.2 | grind) (.slice Ao60 t289.length co60)) (fun _ hk => by first | exact hk.2 | grind) (.slice Ao65 t292.length co65)) (fun _ hk => by first | exact hk.1.1 | grind)⟩, ⟨vF_ HO_270000.out⟩, ⟨vF_ HO_270001.out⟩, ⟨vF_ HO_270003.out⟩, ⟨vF_ HO291.out⟩, ⟨vF_ HO294.out⟩, ⟨bfT_ BK269.out⟩, ⟨bfT_ BK270.out⟩, ⟨kP_ BK275.out⟩, ⟨beT_⟩⟩
        rw [if_neg c47] at H
        have c47b0 : (t295 == 0) = false := beq_eq_false_iff_ne.mpr c47
        have c47b1 : (t295 != 0) = true := bne_iff_ne.mpr c47
        simp only [Option.some.injEq, Prod.mk.injEq] at H
        obtain ⟨rfl, rfl, rfl, rfl, rfl⟩ := H
        have hnb67 := NB269_270.out
        have hnc67 := NB270_269.out
        have hnb68 := NB269_275.out
        have hnc68 := NB275_269.out
        obtain ⟨hcz69_0, hcz69_1, hcz69_2, hcz69_3, hfz69_0, hfz69_1, hfz69_2, hfz69_3⟩ := b4_ BK269.out
        go_wp2_with (first | ((with_reducible refine gate_callee (f := 71) rfl ?_); refine gL_ (some 42) Try.func71 #[.agg #[.slice A0_0 l0_0.length c0_0, .slice A0_1 l0_1.length c0_1, .int .u64 a0_2, .slice A0_3 l0_3.length c0_3], .int .u32 ((((a1 + a2) % 4294967296) - 1) % 4294967296)] ?_; (with_reducible refine (ferryref04_hostPage.calls _ _ l0_0 _ _ l0_1 a0_2 _ _ l0_3 ((((a1 + a2) % 4294967296) - 1) % 4294967296) t277 _ ?side1 ?side2 ?side3 ?side4 ?side5 ?side6 A36.out).mono ?_); (case side1 => exact cT_ (Kd.V_reads' HO_270000.out).2.2); (case side2 => exact (Kd.V_reads' HO_270000.out).2.1); (case side3 => exact cT_ (Kd.V_reads' HO_270001.out).2.2); (case side4 => exact (Kd.V_reads' HO_270001.out).2.1); (case side5 => exact cT_ (Kd.V_reads' HO_270003.out).2.2); (case side6 => exact (Kd.V_reads' HO_270003.out).2.1); rintro e w70 ⟨rfl, hb⟩; refine ⟨_, rfl, ?_⟩; replace HO_10 := rB_ HO_10.out hb; replace HO_270000 := vB_ HO_270000.out hb; replace HO_270001 := vB_ HO_270001.out hb; replace HO_270003 := vB_ HO_270003.out hb; replace HO_276000 := vB_ HO_276000.out hb; replace HO_276001 := vB_ HO_276001.out hb; replace BK269 := kB_ BK269 hb; replace BK270 := kB_ BK270 hb; replace BK275 := kB_ BK275 hb; replace HB := hB_ hb; (try clear hb); (try clear hb2); (try clear hk); (try clear hi); obtain ⟨hcz71_0, hcz71_1, hcz71_2, hcz71_3, hfz71_0, hfz71_1, hfz71_2, hfz71_3⟩ := b4_ BK269.out) | ((with_reducible refine gate_callee (f := 47) rfl ?_); refine gL_ (some 48) Try.func47 #[.agg #[.slice A0_0 l0_0.length c0_0, .slice A0_1 l0_1.length c0_1, .int .u64 a0_2, .slice A0_3 l0_3.length c0_3], .int .u64 x12_1] ?_; (with_reducible refine (ferryref04_used.calls k1 _ _ l0_0 _ _ l0_1 a0_2 _ _ l0_3 x12_1 false _ ?side1 ?side2 ?side3 ?side4 ?side5 ?side6 A38.out).mono ?_); (case side1 => exact cT_ (Kd.V_reads' HO_270000.out).2.2); (case side2 => exact (Kd.V_reads' HO_270000.out).2.1); (case side3 => exact cT_ (Kd.V_reads' HO_270001.out).2.2); (case side4 => exact (Kd.V_reads' HO_270001.out).2.1); (case side5 => exact cT_ (Kd.V_reads' HO_270003.out).2.2); (case side6 => exact (Kd.V_reads' HO_270003.out).2.1); rintro e w72 ⟨rfl, hb⟩; refine ⟨_, rfl, ?_⟩; replace HO_10 := rB_ HO_10.out hb; replace HO_270000 := vB_ HO_270000.out hb; replace HO_270001 := vB_ HO_270001.out hb; replace HO_270003 := vB_ HO_270003.out hb; replace HO_276000 := vB_ HO_276000.out hb; replace HO_276001 := vB_ HO_276001.out hb; replace BK269 := kB_ BK269 hb; replace BK270 := kB_ BK270 hb; replace BK275 := kB_ BK275 hb; replace HB := hB_ hb; (try clear hb); (try clear hb2); (try clear hk); (try clear hi); have hnb73 := NB275_270.out; have hnc73 := NB270_275.out; obtain ⟨hcz74_0, hcz74_1, hfz74_0, hfz74_1⟩ := b2_ BK275.out; obtain ⟨Ao75, co75, eo75⟩ := Kd.V_slice HO_276000.out; subst eo75; obtain ⟨Ao76, co76, eo76⟩ := Kd.V_slice HO_276001.out; subst eo76) | ((with_reducible refine gate_callee (f := 72) rfl ?_); refine gL_ (some 52) Try.func72 #[.agg #[.slice Ao75 x276000_1.length co75, .slice Ao76 x276001_1.length co76], .int .u64 x12_1, .int .u64 1, .int .i64 3] ?_; (with_reducible refine (ferryref03_Map.calls k1 (fun k_ => (((P0_0_ k_ ∨ P0_1_ k_ ∨ P0_3_ k_) ∨ w.heap.size ≤ k_) ∧ (some k_ ≠ (.slice Ao28 t272.length co28 : Value).ownBlock ∧ (k_ ≠ gb269 ∧ (k_ ≠ gb270 ∧ k_ ≠ gb275))))) _ _ x276000_1 (fun k_ => (((P0_0_ k_ ∨ P0_1_ k_ ∨ P0_3_ k_) ∨ w.heap.size ≤ k_) ∧ (some k_ ≠ (.slice Ao28 t272.length co28 : Value).ownBlock ∧ (k_ ≠ gb269 ∧ (k_ ≠ gb270 ∧ k_ ≠ gb275))))) _ _ x276001_1 x12_1 1 3 t289 t292 t295 _ ?side1 ?side2 A46.out).mono ?_); (case side1 => first | exact HO_276000.out | exact Kd.V_mono HO_276000.out (fun _ hk => by grind)); (case side2 => first | exact HO_276001.out | exact Kd.V_mono HO_276001.out (fun _ hk => by grind)); rintro e w77 ⟨v290, v293, rfl, ho0, ho1, hb⟩; refine ⟨_, rfl, ?_⟩; have HO291 := Aside0.mk (Kd.V_lower (Kd.V_mono (ok' := fun k_ => ((P0_0_ k_ ∨ P0_1_ k_ ∨ P0_3_ k_) ∨ w.heap.size ≤ k_) ∧ some k_ ≠ (.slice Ao28 t272.length co28 : Value).ownBlock ∧ k_ ≠ gb269 ∧ k_ ≠ gb270 ∧ k_ ≠ gb275) ho0 (fun k_ hk_ => ⟨Or.elim hk_ (fun hs_ => Or.elim hs_ (fun hs_ => hs_.1) (fun hs_ => hs_.1)) (fun hn_ => (.inr (Nat.le_trans (below_size beT_) hn_))), Or.elim hk_ (fun hs_ => Or.elim hs_ (fun hs_ => hs_.2.1) (fun hs_ => hs_.2.1)) (fun hn_ => (Kd.fresh' (Kd.R_lt (rT_ HO_10.out)) k_ hn_)), Or.elim hk_ (fun hs_ => Or.elim hs_ (fun hs_ => hs_.2.2.1) (fun hs_ => hs_.2.2.1)) (fun hn_ => (Kd.freshB (g := gb269) (o := .cells #[.slice A0_0 l0_0.length c0_0, .slice A0_1 l0_1.length c0_1, .int .u64 a0_2, .slice A0_3 l0_3.length c0_3] 29 (0, 0)) (bT_ BK269.out) k_ hn_)), Or.elim hk_ (fun hs_ => Or.elim hs_ (fun hs_ => hs_.2.2.2.1) (fun hs_ => hs_.2.2.2.1)) (fun hn_ => (Kd.freshB (g := gb270) (o := .cells #[.slice none 0 0, .slice none 0 0, .int .u64 x271002_1, .slice none 0 0] 29 (0, 0)) (bT_ BK270.out) k_ hn_)), Or.elim hk_ (fun hs_ => Or.elim hs_ (fun hs_ => hs_.2.2.2.2) (fun hs_ => hs_.2.2.2.2)) (fun hn_ => (Kd.freshB (g := gb275) (o := .cells #[.slice Ao75 x276000_1.length co75, .slice Ao76 x276001_1.length co76] 25 (0, 0)) (bT_ BK275.out) k_ hn_))⟩)) (below_size beT_)); have HO294 := Aside0.mk (Kd.V_lower (Kd.V_mono (ok' := fun k_ => ((P0_0_ k_ ∨ P0_1_ k_ ∨ P0_3_ k_) ∨ w.heap.size ≤ k_) ∧ some k_ ≠ (.slice Ao28 t272.length co28 : Value).ownBlock ∧ k_ ≠ gb269 ∧ k_ ≠ gb270 ∧ k_ ≠ gb275) ho1 (fun k_ hk_ => ⟨Or.elim hk_ (fun hs_ => Or.elim hs_ (fun hs_ => hs_.1) (fun hs_ => hs_.1)) (fun hn_ => (.inr (Nat.le_trans (below_size beT_) hn_))), Or.elim hk_ (fun hs_ => Or.elim hs_ (fun hs_ => hs_.2.1) (fun hs_ => hs_.2.1)) (fun hn_ => (Kd.fresh' (Kd.R_lt (rT_ HO_10.out)) k_ hn_)), Or.elim hk_ (fun hs_ => Or.elim hs_ (fun hs_ => hs_.2.2.1) (fun hs_ => hs_.2.2.1)) (fun hn_ => (Kd.freshB (g := gb269) (o := .cells #[.slice A0_0 l0_0.length c0_0, .slice A0_1 l0_1.length c0_1, .int .u64 a0_2, .slice A0_3 l0_3.length c0_3] 29 (0, 0)) (bT_ BK269.out) k_ hn_)), Or.elim hk_ (fun hs_ => Or.elim hs_ (fun hs_ => hs_.2.2.2.1) (fun hs_ => hs_.2.2.2.1)) (fun hn_ => (Kd.freshB (g := gb270) (o := .cells #[.slice none 0 0, .slice none 0 0, .int .u64 x271002_1, .slice none 0 0] 29 (0, 0)) (bT_ BK270.out) k_ hn_)), Or.elim hk_ (fun hs_ => Or.elim hs_ (fun hs_ => hs_.2.2.2.2) (fun hs_ => hs_.2.2.2.2)) (fun hn_ => (Kd.freshB (g := gb275) (o := .cells #[.slice Ao75 x276000_1.length co75, .slice Ao76 x276001_1.length co76] 25 (0, 0)) (bT_ BK275.out) k_ hn_))⟩)) (below_size beT_)); replace HO_10 := rB_ HO_10.out hb; replace HO_270000 := vB_ HO_270000.out hb; replace HO_270001 := vB_ HO_270001.out hb; replace HO_270003 := vB_ HO_270003.out hb; replace HO_276000 := vB_ HO_276000.out hb; replace HO_276001 := vB_ HO_276001.out hb; replace BK269 := kB_ BK269 hb; replace BK270 := kB_ BK270 hb; replace BK275 := kB_ BK275 hb; replace HB := hB_ hb; (try clear hb); (try clear hb2); (try clear hk); (try clear hi); (try clear ho0); (try clear ho1)) | ((with_reducible refine gate_dst (N := 13) rfl ?_); refine bE_ 13 #[.slice none 0 0, .slice none 0 0] 25 ?_; intro gb296 hg w78 hbox hb; have BK296 := Aside0.mk hbox; have GW296 := geT_ w.heap.size hg; have GE296 := geT_ w.heap.size hg; have NB269_296 := nlT_ BK269.out hg; have NB296_269 := ngT_ BK269.out hg; have NB270_296 := nlT_ BK270.out hg; have NB296_270 := ngT_ BK270.out hg; have NB275_296 := nlT_ BK275.out hg; have NB296_275 := ngT_ BK275.out hg; replace HO_10 := rB_ HO_10.out hb; replace HO_270000 := vE_ HO_270000.out hg hb; replace HO_270001 := vE_ HO_270001.out hg hb; replace HO_270003 := vE_ HO_270003.out hg hb; replace HO_276000 := vE_ HO_276000.out hg hb; replace HO_276001 := vE_ HO_276001.out hg hb; replace HO291 := vE_ HO291.out hg hb; replace HO294 := vE_ HO294.out hg hb; replace BK269 := kB_ BK269 hb; replace BK270 := kB_ BK270 hb; replace BK275 := kB_ BK275 hb; replace HB := hB_ hb; clear hb hbox hg; obtain ⟨Ao79, co79, eo79⟩ := Kd.V_slice HO291.out; subst eo79; have hnb80 := NB296_269.out; have hnc80 := NB269_296.out; have hnb81 := NB296_270.out; have hnc81 := NB270_296.out; have hnb82 := NB296_275.out; have hnc82 := NB275_296.out; obtain ⟨hcz83_0, hcz83_1, hfz83_0, hfz83_1⟩ := b2_ BK296.out; obtain ⟨Ao84, co84, eo84⟩ := Kd.V_slice HO294.out; subst eo84; obtain ⟨hcz85_0, hcz85_1, hcz85_2, hcz85_3, hfz85_0, hfz85_1, hfz85_2, hfz85_3⟩ := b4_ BK269.out; obtain ⟨hcz86_0, hcz86_1, hcz86_2, hcz86_3, hfz86_0, hfz86_1, hfz86_2, hfz86_3⟩ := b4_ BK270.out))
        refine bodyPost_ret (results_ct rfl _ _ gb270 29 #[.slice A0_0 l0_0.length c0_0, .slice A0_1 l0_1.length c0_1, .int .u64 a0_2, .slice A0_3 l0_3.length c0_3] (0, 0) _ rfl (kP_ BK270.out) Try.underlying29 rfl (by kernel_rfl)) rfl ?_
        exact ⟨_, _, _, r3_, (vF_ HO_270000.out), (vF_ HO_270001.out), (vF_ HO_270003.out), beT_⟩
      rw [if_neg c37] at H
      have c37b0 : decide (x12_1 ≤ t277) = false := decide_eq_false c37
      clear c37
      replace H := Option.bind_eq_some_iff.mp H
      obtain ⟨t278, A870, H⟩ := H
      have A87 := Aside0.mk A870
      clear A870
      replace H := Option.bind_eq_some_iff.mp H
      obtain ⟨⟨t279, t282⟩, A880, H⟩ := H
      have A88 := Aside0.mk A880
      clear A880
      replace H := Option.bind_eq_some_iff.mp H
      obtain ⟨t285, A890, H⟩ := H
      have A89 := Aside0.mk A890
      clear A890
      simp only [Option.some.injEq, Prod.mk.injEq] at H
      obtain ⟨rfl, rfl, rfl, rfl, rfl⟩ := H
      have hnb90 := NB269_270.out
      have hnc90 := NB270_269.out
      have hnb91 := NB269_275.out
      have hnc91 := NB275_269.out
      obtain ⟨hcz92_0, hcz92_1, hcz92_2, hcz92_3, hfz92_0, hfz92_1, hfz92_2, hfz92_3⟩ := b4_ BK269.out
      try go_wp2_with (first | ((with_reducible refine gate_callee (f := 71) rfl ?_); refine gL_ (some 42) Try.func71 #[.agg #[.slice A0_0 l0_0.length c0_0, .slice A0_1 l0_1.length c0_1, .int .u64 a0_2, .slice A0_3 l0_3.length c0_3], .int .u32 ((((a1 + a2) % 4294967296) - 1) % 4294967296)] ?_; (with_reducible refine (ferryref04_hostPage.calls _ _ l0_0 _ _ l0_1 a0_2 _ _ l0_3 ((((a1 + a2) % 4294967296) - 1) % 4294967296) t277 _ ?side1 ?side2 ?side3 ?side4 ?side5 ?side6 A36.out).mono ?_); (case side1 => exact cT_ (Kd.V_reads' HO_270000.out).2.2); (case side2 => exact (Kd.V_reads' HO_270000.out).2.1); (case side3 => exact cT_ (Kd.V_reads' HO_270001.out).2.2); (case side4 => exact (Kd.V_reads' HO_270001.out).2.1); (case side5 => exact cT_ (Kd.V_reads' HO_270003.out).2.2); (case side6 => exact (Kd.V_reads' HO_270003.out).2.1); rintro e w93 ⟨rfl, hb⟩; refine ⟨_, rfl, ?_⟩; replace HO_10 := rB_ HO_10.out hb; replace HO_270000 := vB_ HO_270000.out hb; replace HO_270001 := vB_ HO_270001.out hb; replace HO_270003 := vB_ HO_270003.out hb; replace HO_276000 := vB_ HO_276000.out hb; replace HO_276001 := vB_ HO_276001.out hb; replace BK269 := kB_ BK269 hb; replace BK270 := kB_ BK270 hb; replace BK275 := kB_ BK275 hb; replace HB := hB_ hb; (try clear hb); (try clear hb2); (try clear hk); (try clear hi)))
      replace HO_10 := Aside0.mk (Kd.R_drew HO_10.out)
      replace HO_270000 := Aside0.mk (Kd.V_drew HO_270000.out)
      replace HO_270001 := Aside0.mk (Kd.V_drew HO_270001.out)
      replace HO_270003 := Aside0.mk (Kd.V_drew HO_270003.out)
      replace HO_276000 := Aside0.mk (Kd.V_drew HO_276000.out)
      replace HO_276001 := Aside0.mk (Kd.V_drew HO_276001.out)
      replace BK269 := Aside0.mk (blk_drew BK269.out)
      replace BK270 := Aside0.mk (blk_drew BK270.out)
      replace BK275 := Aside0.mk (blk_drew BK275.out)
      replace HB := Aside0.mk (below_drew1 HB.out)
      refine start_ (n := 11) (S := fun w' => w'.cell? ⟨gb275, 0, none⟩ = some (u276000) ∧ w'.cell? ⟨gb275, 1, none⟩ = some (u276001) ∧ w'.cell? ⟨gb269, 0, none⟩ = some (.slice A0_0 l0_0.length c0_0) ∧ w'.cell? ⟨gb269, 1, none⟩ = some (.slice A0_1 l0_1.length c0_1) ∧ w'.cell? ⟨gb269, 2, none⟩ = some (.int .u64 a0_2) ∧ w'.cell? ⟨gb269, 3, none⟩ = some (.slice A0_3 l0_3.length c0_3)) (ds := [10]) (mb_ 11 0) (by kernel_rfl) rfl rfl ⟨(blk_cell BK275.out 0).trans rfl, (blk_cell BK275.out 1).trans rfl, (blk_cell BK269.out 0).trans rfl, (blk_cell BK269.out 1).trans rfl, (blk_cell BK269.out 2).trans rfl, (blk_cell BK269.out 3).trans rfl⟩ (fun hHeld => ?_); refine with_tabW ferryref04_Map.tab15 ferryref04_Map.bits15 (fun HT_ HW_ => ?_)
      generalize w93.drew = w94 at HO_10 HO_270000 HO_270001 HO_270003 HO_276000 HO_276001 BK269 BK270 BK275 HB hHeld ⊢
      refine pS_ 2 61 (mb_ 11 4) ?_
      refine pS_ 3 62 (mb_ 11 12) ?_
      refine pS_ 5 64 (mb_ 11 44) ?_
      refine pS_ 6 65 (mb_ 11 108) ?_
      refine pS_ 7 66 (mb_ 11 236) ?_
      refine t6S_ 0 59 (mb_ 11 237) ?_
      refine t6S_ 1 60 (mb_ 11 239) ?_
      refine one_ (i := 4) (N := some 63) (mb_ 11 255) rfl rfl (one_of HT_.out (by kernel_rfl)) (by decide) (fun K hK => ?_)
      refine goes_ Try.func14 (by kernel_rfl) rfl #[.agg #[.slice A0_0 l0_0.length c0_0, .slice A0_1 l0_1.length c0_1, .int .u64 a0_2, .slice A0_3 l0_3.length c0_3], .int .u32 ((a1 * 4096) % 4294967296)] (by rfl) rfl rfl aT_ ?_
      with_reducible refine (ferryref04_Place.calls _ _ l0_0 _ _ l0_1 a0_2 _ _ l0_3 ((a1 * 4096) % 4294967296) t278 _ ?side1 ?side2 ?side3 ?side4 ?side5 ?side6 A87.out).mono ?_
      (case side1 => exact cT_ (Kd.V_reads' HO_270000.out).2.2)
      (case side2 => exact (Kd.V_reads' HO_270000.out).2.1)
      (case side3 => exact cT_ (Kd.V_reads' HO_270001.out).2.2)
      (case side4 => exact (Kd.V_reads' HO_270001.out).2.1)
      (case side5 => exact cT_ (Kd.V_reads' HO_270003.out).2.2)
      (case side6 => exact (Kd.V_reads' HO_270003.out).2.1)
      rintro e w95 ⟨rfl, hb⟩
      refine ⟨_, rfl, ?_⟩
      replace HO_10 := rB_ HO_10.out hb
      replace HO_270000 := vB_ HO_270000.out hb
      replace HO_270001 := vB_ HO_270001.out hb
      replace HO_270003 := vB_ HO_270003.out hb
      replace HO_276000 := vB_ HO_276000.out hb
      replace HO_276001 := vB_ HO_276001.out hb
      replace BK269 := kB_ BK269 hb
      replace BK270 := kB_ BK270 hb
      replace BK275 := kB_ BK275 hb
      replace HB := hB_ hb
      (try clear hb)
      (try clear hb2)
      (try clear hk)
      (try clear hi)
      obtain ⟨Ao96, co96, eo96⟩ := Kd.V_slice HO_276000.out
      (first | subst eo96 | (injection eo96 with f1_ f2_ f3_; have f4_ := f1_.symm; have f5_ := f3_.symm; clear f1_ f2_ f3_; subst f4_; subst f5_))
      obtain ⟨Ao97, co97, eo97⟩ := Kd.V_slice HO_276001.out
      (first | subst eo97 | (injection eo97 with f1_ f2_ f3_; have f4_ := f1_.symm; have f5_ := f3_.symm; clear f1_ f2_ f3_; subst f4_; subst f5_))
      refine hK.out _ _ ⟨(blk_cell BK275.out 0).trans rfl, (blk_cell BK275.out 1).trans rfl, (blk_cell BK269.out 0).trans rfl, (blk_cell BK269.out 1).trans rfl, (blk_cell BK269.out 2).trans rfl, (blk_cell BK269.out 3).trans rfl⟩ (fun hHeld => ?_)
      clear hK K
      refine nS_ ?_
      refine one_ (i := 8) (N := some 67) (mb_ 11 511) rfl rfl (one_of HT_.out (by kernel_rfl)) (by decide) (fun K hK => ?_)
      refine goes_ Try.func73 (by kernel_rfl) rfl #[.agg #[.slice Ao96 x276000_1.length co96, .slice Ao97 x276001_1.length co97], .int .u64 t278, .int .u64 (IntKind.u64.wrap ((IntKind.u64.wrap (a2)) * 4096))] (by rfl) rfl rfl aT_ ?_
      with_reducible refine (ferryref03_Clear.calls k1 (fun k_ => (((P0_0_ k_ ∨ P0_1_ k_ ∨ P0_3_ k_) ∨ w.heap.size ≤ k_) ∧ (some k_ ≠ (.slice Ao28 t272.length co28 : Value).ownBlock ∧ (k_ ≠ gb269 ∧ (k_ ≠ gb270 ∧ k_ ≠ gb275))))) _ _ x276000_1 _ _ x276001_1 t278 (IntKind.u64.wrap ((IntKind.u64.wrap (a2)) * 4096)) t279 t282 _ ?side1 ?side2 ?side3 A88.out).mono ?_
      (case side1 => first | exact HO_276000.out | exact Kd.V_mono HO_276000.out (fun _ hk => by grind))
      (case side2 => exact cT_ (Kd.V_reads' HO_276001.out).2.2)
      (case side3 => exact (Kd.V_reads' HO_276001.out).2.1)
      rintro e w98 ⟨v280, v283, rfl, ho0, ho1, hb⟩
      refine ⟨_, rfl, ?_⟩
      have HO281 := Aside0.mk (Kd.V_lower (Kd.V_mono (ok' := fun k_ => ((P0_0_ k_ ∨ P0_1_ k_ ∨ P0_3_ k_) ∨ w.heap.size ≤ k_) ∧ some k_ ≠ (v283 : Value).ownBlock ∧ some k_ ≠ (.slice Ao28 t272.length co28 : Value).ownBlock ∧ k_ ≠ gb269 ∧ k_ ≠ gb270 ∧ k_ ≠ gb275) ho0 (fun k_ hk_ => ⟨Or.elim hk_.1 (fun hs_ => hs_.1) (fun hn_ => (.inr (Nat.le_trans (below_size beT_) hn_))), hk_.2, Or.elim hk_.1 (fun hs_ => hs_.2.1) (fun hn_ => (Kd.fresh' (Kd.R_lt (rT_ HO_10.out)) k_ hn_)), Or.elim hk_.1 (fun hs_ => hs_.2.2.1) (fun hn_ => (Kd.freshB (g := gb269) (o := .cells #[.slice A0_0 l0_0.length c0_0, .slice A0_1 l0_1.length c0_1, .int .u64 a0_2, .slice A0_3 l0_3.length c0_3] 29 (0, 0)) (bT_ BK269.out) k_ hn_)), Or.elim hk_.1 (fun hs_ => hs_.2.2.2.1) (fun hn_ => (Kd.freshB (g := gb270) (o := .cells #[.slice none 0 0, .slice none 0 0, .int .u64 x271002_1, .slice none 0 0] 29 (0, 0)) (bT_ BK270.out) k_ hn_)), Or.elim hk_.1 (fun hs_ => hs_.2.2.2.2) (fun hn_ => (Kd.freshB (g := gb275) (o := .cells #[.slice Ao96 x276000_1.length co96, .slice Ao97 x276001_1.length co97] 25 (0, 0)) (bT_ BK275.out) k_ hn_))⟩)) (below_size beT_))
      have HO284 := Aside0.mk (Kd.R_lower (Kd.R_newM (M := fun k_ => (w.heap.size ≤ k_)) (Kd.R_mono (ok' := fun k_ => True) ho1 (fun _ hk_ => trivial)) (below_size beT_) (fun k_ h_ => h_)) (below_size beT_))
      replace HO_10 := rB_ HO_10.out hb
      replace HO_270000 := Aside0.mk (Kd.V_elder' (vT_ HO_270000.out) (Kd.R_base ho1) hb)
      replace HO_270001 := Aside0.mk (Kd.V_elder' (vT_ HO_270001.out) (Kd.R_base ho1) hb)
      replace HO_270003 := Aside0.mk (Kd.V_elder' (vT_ HO_270003.out) (Kd.R_base ho1) hb)
      replace HO_276000 := Aside0.mk (Kd.V_elder' (vT_ HO_276000.out) (Kd.R_base ho1) hb)
      replace HO_276001 := Aside0.mk (Kd.V_elder' (vT_ HO_276001.out) (Kd.R_base ho1) hb)
      replace BK269 := kB_ BK269 hb
      replace BK270 := kB_ BK270 hb
      replace BK275 := kB_ BK275 hb
      replace HB := hB_ hb
      (try clear hb)
      (try clear hb2)
      (try clear hk)
      (try clear hi)
      (try clear ho0)
      (try clear ho1)
      obtain ⟨Ao99, co99, eo99⟩ := Kd.V_slice HO281.out
      (first | subst eo99 | (injection eo99 with f1_ f2_ f3_; have f4_ := f1_.symm; have f5_ := f3_.symm; clear f1_ f2_ f3_; subst f4_; subst f5_))
      obtain ⟨Ao101, co101, eo101⟩ := Kd.R_slice HO284.out
      (first | subst eo101 | (injection eo101 with f1_ f2_ f3_; have f4_ := f1_.symm; have f5_ := f3_.symm; clear f1_ f2_ f3_; subst f4_; subst f5_))
      refine hK.out _ _ ⟨(blk_cell BK275.out 0).trans rfl, (blk_cell BK275.out 1).trans rfl, (blk_cell BK269.out 0).trans rfl, (blk_cell BK269.out 1).trans rfl, (blk_cell BK269.out 2).trans rfl, (blk_cell BK269.out 3).trans rfl⟩ (fun hHeld => ?_)
      clear hK K
      refine nS_ ?_
      refine pS_ 9 68 (mb_ 11 1023) ?_
      refine last_ (i := 10) (N := none) (mb_ 11 2047) rfl rfl (one_of HT_.out (by kernel_rfl)) (by decide) (fun K hK => ?_)
      have hs100 : w98.cell? ⟨gb269, 0, none⟩ = some (.slice A0_0 l0_0.length c0_0) := (blk_cell BK269.out 0).trans rfl
      have hfs100 := blk_frozen BK269.out 0
      have hns100_1 := NB270_269.out
      have hns100_2 := NB275_269.out
      have hms100_1 := NB269_270.out
      have hms100_2 := NB269_275.out
      have hs102 : w98.cell? ⟨gb269, 1, none⟩ = some (.slice A0_1 l0_1.length c0_1) := (blk_cell BK269.out 1).trans rfl
      have hfs102 := blk_frozen BK269.out 1
      have hns102_1 := NB270_269.out
      have hns102_2 := NB275_269.out
      have hms102_1 := NB269_270.out
      have hms102_2 := NB269_275.out
      refine skip_ (w1 := ?_) (by rfl) rfl ?_ ?_
      rotate_left
      · go_simp
        rfl
      refine hK.out _ _ ?_
      clear hK K
      refine done_ (done_of HT_.out (by kernel_rfl)) ?_
      try go_wp2_with (first | ((with_reducible refine gate_callee (f := 74) rfl ?_); refine gL_ (some 73) Try.func74 #[.slice Ao28 t272.length co28, .int .u32 a1, .int .u32 a2, .int .i64 a3] ?_; (with_reducible refine (ferryref04_with.calls k1 _ _ t272 a1 a2 a3 t285 _ ?side1 ?side2 A89.out).mono ?_); (case side1 => refine (Kd.R_reads' (e := 41) (base := w.heap.size) (ok := fun k_ => (w.heap.size ≤ k_)) (n := t272.length) (c := co28) ?_).2.2; exact (by (with_reducible repeat (first | apply Kd.R_alloc | apply Kd.R_drewN | apply Kd.R_drew)); exact (Kd.R_mono (Kd.R_far (p := ⟨gb269, 1, none⟩) (Kd.R_far (p := ⟨gb269, 0, none⟩) (Kd.R_types HO_10.out BK269.out (by decide)) (fun _ hk => by first | exact hk.2 | grind) (.slice Ao99 t279.length co99)) (fun _ hk => by first | exact hk.2 | grind) (.slice Ao101 t282.length co101)) (fun _ h_ => h_.1)))); (case side2 => exact (Kd.R_reads' HO_10.out).2.1); rintro e w103 ⟨v286, rfl, ho0, hb⟩; refine ⟨_, rfl, ?_⟩; have HO287 := Aside0.mk (Kd.R_lower (Kd.R_new' (Kd.R_newM (M := fun k_ => (w.heap.size ≤ k_)) ho0 (below_size beT_) (fun k_ h_ => h_)) (Kd.R_lt (by (with_reducible repeat (first | apply Kd.R_alloc | apply Kd.R_drewN | apply Kd.R_drew)); exact (Kd.R_mono (Kd.R_far (p := ⟨gb269, 1, none⟩) (Kd.R_far (p := ⟨gb269, 0, none⟩) (Kd.R_types HO_10.out BK269.out (by decide)) (fun _ hk => by first | exact hk.2 | grind) (.slice Ao99 t279.length co99)) (fun _ hk => by first | exact hk.2 | grind) (.slice Ao101 t282.length co101)) (fun _ h_ => h_.1))))) (below_size beT_)); replace HO_10 := Aside0.mk (Kd.R_elder' (by (with_reducible repeat (first | apply Kd.R_alloc | apply Kd.R_drewN | apply Kd.R_drew)); exact (Kd.R_mono (Kd.R_far (p := ⟨gb269, 1, none⟩) (Kd.R_far (p := ⟨gb269, 0, none⟩) (Kd.R_types HO_10.out BK269.out (by decide)) (fun _ hk => by first | exact hk.2 | grind) (.slice Ao99 t279.length co99)) (fun _ hk => by first | exact hk.2 | grind) (.slice Ao101 t282.length co101)) (fun _ h_ => h_.1))) (Kd.R_base ho0) hb); replace HO_270000 := Aside0.mk (Kd.V_elder' (by (with_reducible repeat (first | apply Kd.V_alloc | apply Kd.V_drewN | apply Kd.V_drew)); exact (Kd.V_mono (Kd.V_far (p := ⟨gb269, 1, none⟩) (Kd.V_far (p := ⟨gb269, 0, none⟩) (Kd.V_mono HO_270000.out (fun k_ hk => (⟨hk, by first | exact hk.1.2.2.1 | omega | grind⟩ : _ ∧ k_ ≠ gb269))) (fun _ hk => by first | exact hk.2 | grind) (.slice Ao99 t279.length co99)) (fun _ hk => by first | exact hk.2 | grind) (.slice Ao101 t282.length co101)) (fun _ h_ => h_.1))) (Kd.R_base ho0) hb); replace HO_270001 := Aside0.mk (Kd.V_elder' (by (with_reducible repeat (first | apply Kd.V_alloc | apply Kd.V_drewN | apply Kd.V_drew)); exact (Kd.V_mono (Kd.V_far (p := ⟨gb269, 1, none⟩) (Kd.V_far (p := ⟨gb269, 0, none⟩) (Kd.V_mono HO_270001.out (fun k_ hk => (⟨hk, by first | exact hk.1.2.2.1 | omega | grind⟩ : _ ∧ k_ ≠ gb269))) (fun _ hk => by first | exact hk.2 | grind) (.slice Ao99 t279.length co99)) (fun _ hk => by first | exact hk.2 | grind) (.slice Ao101 t282.length co101)) (fun _ h_ => h_.1))) (Kd.R_base ho0) hb); replace HO_270003 := Aside0.mk (Kd.V_elder' (by (with_reducible repeat (first | apply Kd.V_alloc | apply Kd.V_drewN | apply Kd.V_drew)); exact (Kd.V_mono (Kd.V_far (p := ⟨gb269, 1, none⟩) (Kd.V_far (p := ⟨gb269, 0, none⟩) (Kd.V_mono HO_270003.out (fun k_ hk => (⟨hk, by first | exact hk.1.2.2.1 | omega | grind⟩ : _ ∧ k_ ≠ gb269))) (fun _ hk => by first | exact hk.2 | grind) (.slice Ao99 t279.length co99)) (fun _ hk => by first | exact hk.2 | grind) (.slice Ao101 t282.length co101)) (fun _ h_ => h_.1))) (Kd.R_base ho0) hb); replace HO_276000 := Aside0.mk (Kd.V_elder' (by (with_reducible repeat (first | apply Kd.V_alloc | apply Kd.V_drewN | apply Kd.V_drew)); exact (Kd.V_mono (Kd.V_far (p := ⟨gb269, 1, none⟩) (Kd.V_far (p := ⟨gb269, 0, none⟩) (Kd.V_mono HO_276000.out (fun k_ hk => (⟨hk, by first | exact hk.1.2.2.1 | omega | grind⟩ : _ ∧ k_ ≠ gb269))) (fun _ hk => by first | exact hk.2 | grind) (.slice Ao99 t279.length co99)) (fun _ hk => by first | exact hk.2 | grind) (.slice Ao101 t282.length co101)) (fun _ h_ => h_.1))) (Kd.R_base ho0) hb); replace HO_276001 := Aside0.mk (Kd.V_elder' (by (with_reducible repeat (first | apply Kd.V_alloc | apply Kd.V_drewN | apply Kd.V_drew)); exact (Kd.V_mono (Kd.V_far (p := ⟨gb269, 1, none⟩) (Kd.V_far (p := ⟨gb269, 0, none⟩) (Kd.V_mono HO_276001.out (fun k_ hk => (⟨hk, by first | exact hk.1.2.2.1 | omega | grind⟩ : _ ∧ k_ ≠ gb269))) (fun _ hk => by first | exact hk.2 | grind) (.slice Ao99 t279.length co99)) (fun _ hk => by first | exact hk.2 | grind) (.slice Ao101 t282.length co101)) (fun _ h_ => h_.1))) (Kd.R_base ho0) hb); replace HO281 := Aside0.mk (Kd.V_elder' (by (with_reducible repeat (first | apply Kd.V_alloc | apply Kd.V_drewN | apply Kd.V_drew)); exact (Kd.V_mono (Kd.V_far (p := ⟨gb269, 1, none⟩) (Kd.V_far (p := ⟨gb269, 0, none⟩) (Kd.V_mono HO281.out (fun k_ hk => (⟨hk, by first | exact hk.2.2.2.1 | omega | grind⟩ : _ ∧ k_ ≠ gb269))) (fun _ hk => by first | exact hk.2 | grind) (.slice Ao99 t279.length co99)) (fun _ hk => by first | exact hk.2 | grind) (.slice Ao101 t282.length co101)) (fun _ h_ => h_.1))) (Kd.R_base ho0) hb); replace HO284 := Aside0.mk (Kd.R_below (by (with_reducible repeat (first | apply Kd.R_alloc | apply Kd.R_drewN | apply Kd.R_drew)); exact (Kd.R_mono (Kd.R_far (p := ⟨gb269, 1, none⟩) (Kd.R_far (p := ⟨gb269, 0, none⟩) (Kd.R_types HO284.out BK269.out (by decide)) (fun _ hk => by first | exact hk.2 | grind) (.slice Ao99 t279.length co99)) (fun _ hk => by first | exact hk.2 | grind) (.slice Ao101 t282.length co101)) (fun _ h_ => h_.1))) hb); replace BK269 := Aside0.mk (blk_below (g := gb269) (o := .cells #[.slice Ao99 t279.length co99, .slice Ao101 t282.length co101, .int .u64 a0_2, .slice A0_3 l0_3.length c0_3] 29 (0, 0)) (kP_ BK269.out) hb); replace BK270 := kB_ BK270 hb; replace BK275 := kB_ BK275 hb; replace HB := hB_ hb; (try clear hb); (try clear hb2); (try clear hk); (try clear hi); (try clear ho0); obtain ⟨Ao104, co104, eo104⟩ := Kd.R_slice HO287.out; subst eo104; obtain ⟨hcz105_0, hcz105_1, hcz105_2, hcz105_3, hfz105_0, hfz105_1, hfz105_2, hfz105_3⟩ := b4_ BK269.out; have hnb106 := NB270_275.out; have hnc106 := NB275_270.out; obtain ⟨hcz107_0, hcz107_1, hcz107_2, hcz107_3, hfz107_0, hfz107_1, hfz107_2, hfz107_3⟩ := b4_ BK270.out))
      refine bodyPost_ret (results_ct rfl _ _ gb270 29 #[.slice Ao99 t279.length co99, .slice Ao101 t282.length co101, .int .u64 a0_2, .slice Ao104 t285.length co104] (0, 0) _ rfl (kP_ BK270.out) Try.underlying29 rfl (by kernel_rfl)) rfl ?_
      exact ⟨_, _, _, r3_, (vF_ HO281.out), Kd.V_mono (Kd.R_V (by (with_reducible repeat (first | apply Kd.R_alloc | apply Kd.R_drewN | apply Kd.R_drew)); exact Kd.R_far (p := ⟨gb270, 3, none⟩) (Kd.R_far (p := ⟨gb270, 2, none⟩) (Kd.R_far (p := ⟨gb270, 1, none⟩) (Kd.R_far (p := ⟨gb270, 0, none⟩) (Kd.R_far (p := ⟨gb269, 3, none⟩) (Kd.R_types (Kd.R_types HO284.out BK269.out (by decide)) BK270.out (by decide)) (fun _ hk => by first | exact hk.1.2 | grind) (.slice Ao104 t285.length co104)) (fun _ hk => by first | exact hk.2 | grind) (.slice Ao99 t279.length co99)) (fun _ hk => by first | exact hk.2 | grind) (.slice Ao101 t282.length co101)) (fun _ hk => by first | exact hk.2 | grind) (.int .u64 a0_2)) (fun _ hk => by first | exact hk.2 | grind) (.slice Ao104 t285.length co104))) (fun k_ hk => by exact .inr (by first | exact hk.1.1.1 | exact hk.1.1)), Kd.V_mono (Kd.R_V (by (with_reducible repeat (first | apply Kd.R_alloc | apply Kd.R_drewN | apply Kd.R_drew)); exact Kd.R_far (p := ⟨gb270, 3, none⟩) (Kd.R_far (p := ⟨gb270, 2, none⟩) (Kd.R_far (p := ⟨gb270, 1, none⟩) (Kd.R_far (p := ⟨gb270, 0, none⟩) (Kd.R_far (p := ⟨gb269, 3, none⟩) (Kd.R_types (Kd.R_types HO287.out BK269.out (by decide)) BK270.out (by decide)) (fun _ hk => by first | exact hk.1.2 | grind) (.slice Ao104 t285.length co104)) (fun _ hk => by first | exact hk.2 | grind) (.slice Ao99 t279.length co99)) (fun _ hk => by first | exact hk.2 | grind) (.slice Ao101 t282.length co101)) (fun _ hk => by first | exact hk.2 | grind) (.int .u64 a0_2)) (fun _ hk => by first | exact hk.2 | grind) (.slice Ao104 t285.length co104))) (fun k_ hk => by exact .inr (by first | exact hk.1.1.1.1 | exact hk.1.1.1)), beT_⟩

end Go.Proofs.Ytgkjdpdmmlalcaa.F
end
