import Derived.Test.YtjhfglpgpicmiaaVZF0
import Derived.Test.YtjhfglpgpicmiaaVA5
import Derived.Test.YtjhfglpgpicmiaaVA11
import Derived.Test.YtjhfglpgpicmiaaVA12FFerryref03Map
import Derived.Test.YtjhfglpgpicmiaaVA15FFerryref03Clear
import Derived.Test.YtjhfglpgpicmiaaVA16
import Derived.Test.YtjhfglpgpicmiaaVA24
import Derived.Test.YtjhfglpgpicmiaaVA25FFerryref04With
section
namespace Go.Proofs.Ytjhfglpgpicmiaa.F
open Go.RowKit Go.Proofs.YtjhfglpgpicmiaaW.PrintWords Go.Proofs.YtjhfglpgpicmiaaW.PrintLast Go.Proofs.YtjhfglpgpicmiaaW.PrintMore
attribute [local go_sem] max2_int min2_int max_two min_two max_three min_three max_four min_four
attribute [local go_sem] cell_twice
set_option linter.unusedVariables false
set_option linter.unusedSimpArgs false

def ferryref04_Map.l0 : Nat → Int → Int → Int → List (S39) → Int → List (S55) → List (S60) → Int → List (S39) → List (S55) → List (S60) → Option ((List (S55)) × (List (S60)) × Int × (List (S39)) × Int)
  | 0, _, _, _, _, _, _, _, _, _, _, _ => none
  | k + 1, x1, x2, x3, x10, x12, x354000, x354001, x354002, x354003, x360000, x360001 => (ferryref04_hostPage.f x354000 x354001 x354002 x354003 ((((x1 + x2) % 4294967296) - 1) % 4294967296)).bind fun t361 => (if x12 ≤ t361 then ((ferryref04_used.f k x354000 x354001 x354002 x354003 x12).bind fun t372 => (if t372 = true then (ferryref04_Map.l0 k x1 x2 x3 x10 (IntKind.u64.wrap (x12 + 1)) x354000 x354001 x354002 x354003 x360000 x360001) else ((ferryref03_Map.f k x360000 x360001 x12 1 3).bind fun bt373 => (if bt373.2.2 = 0 then (ferryref04_Map.l0 k x1 x2 x3 x10 (IntKind.u64.wrap (x12 + 1)) x354000 x354001 x354002 x354003 bt373.1 bt373.2.1) else (some (x354000, x354001, x354002, x354003, 105)))))) else ((ferryref04_Place.f x354000 x354001 x354002 x354003 ((x1 * 4096) % 4294967296)).bind fun t362 => ((ferryref03_Clear.f k x360000 x360001 t362 (IntKind.u64.wrap ((IntKind.u64.wrap (x2)) * 4096))).bind fun bt363 => ((ferryref04_with.f k x10 x1 x2 x3).bind fun t369 => (some (bt363.1, bt363.2, x354002, t369, 0))))))
def ferryref04_Map.f (k : Nat) (l0_0 : List (S55)) (l0_1 : List (S60)) (a0_2 : Int) (l0_3 : List (S39)) (a1 : Int) (a2 : Int) (a3 : Int) : Option ((List (S55)) × (List (S60)) × Int × (List (S39)) × Int) := (ferryref04_wrong.f a1 a2 a3).bind fun t355 => (if t355 = true then (some (l0_0, l0_1, a0_2, l0_3, 22)) else ((ferryref04_without.f k l0_0 l0_1 a0_2 l0_3 a1 a2).bind fun t356 => (if a2 > ((wrap64 (256 - (t356.length : Int))) % 4294967296) then (some (l0_0, l0_1, a0_2, l0_3, 12)) else ((ferryref04_hostPage.f l0_0 l0_1 a0_2 l0_3 a1).bind fun t360 => (ferryref04_Map.l0 k a1 a2 a3 t356 t360 l0_0 l0_1 a0_2 l0_3 l0_0 l0_1)))))
def ferryref04_Map.T15 : Bool × List (List Nat × List Nat) := (true, [([], []), ([], []), ([], []), ([2], [2]), ([1, 3], [1, 3]), ([], []), ([5], [5]), ([6], [6]), ([0, 4, 7, 4], [0, 4, 7]), ([0, 1, 2, 3, 4, 5, 6, 7, 8], []), ([9, 8, 8, 0, 1, 2, 3, 4, 5, 6, 7, 8], [8, 9])])
def ferryref04_Map.B15 : List Nat := [0, 0, 0, 4, 14, 0, 32, 96, 255, 511, 1023]
theorem ferryref04_Map.tab15 : rtab .any (opsOf Try.f17 15) = ferryref04_Map.T15 := by kernel_rfl
theorem ferryref04_Map.bits15 : waitsOk ferryref04_Map.T15.2 ferryref04_Map.B15 = true := by kernel_rfl
set_option maxHeartbeats 8000000 in
set_option maxRecDepth 100000 in
theorem ferryref04_Map.calls (k : Nat) (P0_0_ : Nat → Prop) (A0_0 : Option Addr) (c0_0 : Nat) (l0_0 : List (S55)) (P0_1_ : Nat → Prop) (A0_1 : Option Addr) (c0_1 : Nat) (l0_1 : List (S60)) (a0_2 : Int) (P0_3_ : Nat → Prop) (A0_3 : Option Addr) (c0_3 : Nat) (l0_3 : List (S39)) (a1 : Int) (a2 : Int) (a3 : Int) (r1 : List (S55)) (r2 : List (S60)) (r3 : Int) (r4 : List (S39)) (r5 : Int) (w : World) (hs0_0 : Kd.V k55 55 w w.heap.size (fun k_ => P0_0_ k_) (.slice A0_0 l0_0.length c0_0) l0_0) (hs0_1 : Kd.V k60 60 w w.heap.size (fun k_ => P0_1_ k_) (.slice A0_1 l0_1.length c0_1) l0_1) (hs0_3 : Kd.V k39 39 w w.heap.size (fun k_ => P0_3_ k_) (.slice A0_3 l0_3.length c0_3) l0_3) (h : ferryref04_Map.f k l0_0 l0_1 a0_2 l0_3 a1 a2 a3 = some (r1, r2, r3, r4, r5)) :
    Calls Try.prog 17 #[.agg #[.slice A0_0 l0_0.length c0_0, .slice A0_1 l0_1.length c0_1, .int .u64 a0_2, .slice A0_3 l0_3.length c0_3], .int .u32 a1, .int .u32 a2, .int .i64 a3] w fun e w' => ∃ v0_ v1_ v3_ : Value, e = .returned (.tuple #[.agg #[v0_, v1_, .int .u64 r3, v3_], .int .i64 r5]) ∧ Kd.V k55 55 w' w.heap.size (fun k_ => ((P0_0_ k_ ∨ P0_1_ k_ ∨ P0_3_ k_) ∨ w.heap.size ≤ k_)) v0_ r1 ∧ Kd.V k60 60 w' w.heap.size (fun k_ => ((P0_0_ k_ ∨ P0_1_ k_ ∨ P0_3_ k_) ∨ w.heap.size ≤ k_)) v1_ r2 ∧ Kd.V k39 39 w' w.heap.size (fun k_ => ((P0_0_ k_ ∨ P0_1_ k_ ∨ P0_3_ k_) ∨ w.heap.size ≤ k_)) v3_ r4 ∧ Below w.heap.size w w' := by
  have hu29 := Try.underlying29
  have hu25 := Try.underlying25
  have HO0_0 := Aside0.mk (show Kd.V k55 55 w w.heap.size (fun k_ => ((P0_0_ k_ ∨ P0_1_ k_ ∨ P0_3_ k_) ∨ w.heap.size ≤ k_)) (.slice A0_0 l0_0.length c0_0) l0_0 from Kd.V_mono hs0_0 (fun k_ hk => .inl (.inl hk)))
  have HO0_1 := Aside0.mk (show Kd.V k60 60 w w.heap.size (fun k_ => ((P0_0_ k_ ∨ P0_1_ k_ ∨ P0_3_ k_) ∨ w.heap.size ≤ k_)) (.slice A0_1 l0_1.length c0_1) l0_1 from Kd.V_mono hs0_1 (fun k_ hk => .inl (.inr (.inl hk))))
  have HO0_3 := Aside0.mk (show Kd.V k39 39 w w.heap.size (fun k_ => ((P0_0_ k_ ∨ P0_1_ k_ ∨ P0_3_ k_) ∨ w.heap.size ≤ k_)) (.slice A0_3 l0_3.length c0_3) l0_3 from Kd.V_mono hs0_3 (fun k_ hk => .inl (.inr (.inr hk))))
  have HB := Aside0.mk (Below.refl w.heap.size w)
  have H : ((ferryref04_wrong.f a1 a2 a3).bind fun t355 => (if t355 = true then (some (l0_0, l0_1, a0_2, l0_3, 22)) else ((ferryref04_without.f k l0_0 l0_1 a0_2 l0_3 a1 a2).bind fun t356 => (if a2 > ((wrap64 (256 - (t356.length : Int))) % 4294967296) then (some (l0_0, l0_1, a0_2, l0_3, 12)) else ((ferryref04_hostPage.f l0_0 l0_1 a0_2 l0_3 a1).bind fun t360 => (ferryref04_Map.l0 k a1 a2 a3 t356 t360 l0_0 l0_1 a0_2 l0_3 l0_0 l0_1)))))) = some (r1, r2, r3, r4, r5) := h
  clear h
  replace H := Option.bind_eq_some_iff.mp H
  obtain ⟨t355, A50, H⟩ := H
  have A5 := Aside0.mk A50
  clear A50
  by_cases c6 : t355 = true
  · subst c6
    replace H := hP_ H
    simp only [Option.some.injEq, Prod.mk.injEq] at H
    obtain ⟨rfl, rfl, rfl, rfl, rfl⟩ := H
    go_enter Try.func17, Try.ntmps17
    go_wp2_with (first | ((with_reducible refine gate_dst (N := 4) rfl ?_); refine bE_ 4 #[.slice A0_0 l0_0.length c0_0, .slice A0_1 l0_1.length c0_1, .int .u64 a0_2, .slice A0_3 l0_3.length c0_3] 29 ?_; intro gb353 hg w7 hbox hb; have BK353 := Aside0.mk hbox; have GW353 := geT_ w.heap.size hg; have GE353 := geT_ w.heap.size hg; replace HO0_0 := vE_ HO0_0.out hg hb; replace HO0_1 := vE_ HO0_1.out hg hb; replace HO0_3 := vE_ HO0_3.out hg hb; replace HB := hB_ hb; clear hb hbox hg) | ((with_reducible refine gate_dst (N := 8) rfl ?_); refine bE_ 8 #[.slice none 0 0, .slice none 0 0, .int .u64 0, .slice none 0 0] 29 ?_; intro gb354 hg w8 hbox hb; have BK354 := Aside0.mk hbox; have GW354 := geT_ w.heap.size hg; have GE354 := geT_ w.heap.size hg; have NB353_354 := nlT_ BK353.out hg; have NB354_353 := ngT_ BK353.out hg; replace HO0_0 := vE_ HO0_0.out hg hb; replace HO0_1 := vE_ HO0_1.out hg hb; replace HO0_3 := vE_ HO0_3.out hg hb; replace BK353 := kB_ BK353 hb; replace HB := hB_ hb; clear hb hbox hg) | ((with_reducible refine gate_callee (f := 41) rfl ?_); refine gL_ (some 18) Try.func41 #[.int .u32 a1, .int .u32 a2, .int .i64 a3] ?_; (with_reducible refine (ferryref04_wrong.calls a1 a2 a3 true _ A5.out).mono ?_); rintro e w' ⟨rfl, ⟨nd, rfl⟩⟩; refine ⟨_, rfl, ?_⟩; (try (rw [drewN_self w8]; generalize hq_ : World.drewN w8 _ = w8; replace HO0_0 : Aside0 (Kd.V k55 55 w8 w.heap.size (fun k_ => ((P0_0_ k_ ∨ P0_1_ k_ ∨ P0_3_ k_) ∨ w.heap.size ≤ k_) ∧ k_ ≠ gb353 ∧ k_ ≠ gb354) (.slice A0_0 l0_0.length c0_0) l0_0) := ⟨by rw [← hq_]; exact (vM_ HO0_0.out)⟩; replace HO0_1 : Aside0 (Kd.V k60 60 w8 w.heap.size (fun k_ => ((P0_0_ k_ ∨ P0_1_ k_ ∨ P0_3_ k_) ∨ w.heap.size ≤ k_) ∧ k_ ≠ gb353 ∧ k_ ≠ gb354) (.slice A0_1 l0_1.length c0_1) l0_1) := ⟨by rw [← hq_]; exact (vM_ HO0_1.out)⟩; replace HO0_3 : Aside0 (Kd.V k39 39 w8 w.heap.size (fun k_ => ((P0_0_ k_ ∨ P0_1_ k_ ∨ P0_3_ k_) ∨ w.heap.size ≤ k_) ∧ k_ ≠ gb353 ∧ k_ ≠ gb354) (.slice A0_3 l0_3.length c0_3) l0_3) := ⟨by rw [← hq_]; exact (vM_ HO0_3.out)⟩; replace BK353 : Aside0 (w8.heap[gb353]? = some (.cells #[.slice A0_0 l0_0.length c0_0, .slice A0_1 l0_1.length c0_1, .int .u64 a0_2, .slice A0_3 l0_3.length c0_3] 29 (0, 0))) := ⟨by rw [← hq_]; exact (bT_ BK353.out)⟩; replace BK354 : Aside0 (w8.heap[gb354]? = some (.cells #[.slice none 0 0, .slice none 0 0, .int .u64 0, .slice none 0 0] 29 (0, 0))) := ⟨by rw [← hq_]; exact (bT_ BK354.out)⟩; replace HB : Aside0 (Below w.heap.size w w8) := ⟨by rw [← hq_]; exact beT_⟩; clear hq_)); have hnb9 := NB353_354.out; have hnc9 := NB354_353.out; obtain ⟨hcz10_0, hcz10_1, hcz10_2, hcz10_3, hfz10_0, hfz10_1, hfz10_2, hfz10_3⟩ := b4_ BK353.out; obtain ⟨hcz11_0, hcz11_1, hcz11_2, hcz11_3, hfz11_0, hfz11_1, hfz11_2, hfz11_3⟩ := b4_ BK354.out))
    refine bodyPost_ret (results_ct rfl _ _ gb354 29 #[.slice A0_0 l0_0.length c0_0, .slice A0_1 l0_1.length c0_1, .int .u64 a0_2, .slice A0_3 l0_3.length c0_3] (0, 0) _ rfl (kP_ BK354.out) Try.underlying29 rfl (by kernel_rfl)) rfl ?_
    exact ⟨_, _, _, r3_, (vF_ HO0_0.out), (vF_ HO0_1.out), (vF_ HO0_3.out), beT_⟩
  replace c6 := Bool.eq_false_iff.mpr c6
  subst c6
  replace H := hN_ H
  replace H := Option.bind_eq_some_iff.mp H
  obtain ⟨t356, A120, H⟩ := H
  have A12 := Aside0.mk A120
  clear A120
  by_cases c13 : a2 > ((wrap64 (256 - (t356.length : Int))) % 4294967296)
  · rw [if_pos c13] at H
    have c13b0 : decide (((wrap64 (256 - (t356.length : Int))) % 4294967296) < a2) = true := decide_eq_true c13
    (try (have c13bs0 := c13b0; simp only [Int.add_emod_emod, Int.emod_add_emod, Int.sub_emod_emod, Int.emod_sub_emod] at c13bs0))
    clear c13
    simp only [Option.some.injEq, Prod.mk.injEq] at H
    obtain ⟨rfl, rfl, rfl, rfl, rfl⟩ := H
    go_enter Try.func17, Try.ntmps17
    go_wp2_with (first | ((with_reducible refine gate_dst (N := 4) rfl ?_); refine bE_ 4 #[.slice A0_0 l0_0.length c0_0, .slice A0_1 l0_1.length c0_1, .int .u64 a0_2, .slice A0_3 l0_3.length c0_3] 29 ?_; intro gb353 hg w14 hbox hb; have BK353 := Aside0.mk hbox; have GW353 := geT_ w.heap.size hg; have GE353 := geT_ w.heap.size hg; replace HO0_0 := vE_ HO0_0.out hg hb; replace HO0_1 := vE_ HO0_1.out hg hb; replace HO0_3 := vE_ HO0_3.out hg hb; replace HB := hB_ hb; clear hb hbox hg) | ((with_reducible refine gate_dst (N := 8) rfl ?_); refine bE_ 8 #[.slice none 0 0, .slice none 0 0, .int .u64 0, .slice none 0 0] 29 ?_; intro gb354 hg w15 hbox hb; have BK354 := Aside0.mk hbox; have GW354 := geT_ w.heap.size hg; have GE354 := geT_ w.heap.size hg; have NB353_354 := nlT_ BK353.out hg; have NB354_353 := ngT_ BK353.out hg; replace HO0_0 := vE_ HO0_0.out hg hb; replace HO0_1 := vE_ HO0_1.out hg hb; replace HO0_3 := vE_ HO0_3.out hg hb; replace BK353 := kB_ BK353 hb; replace HB := hB_ hb; clear hb hbox hg) | ((with_reducible refine gate_callee (f := 41) rfl ?_); refine gL_ (some 18) Try.func41 #[.int .u32 a1, .int .u32 a2, .int .i64 a3] ?_; (with_reducible refine (ferryref04_wrong.calls a1 a2 a3 false _ A5.out).mono ?_); rintro e w' ⟨rfl, ⟨nd, rfl⟩⟩; refine ⟨_, rfl, ?_⟩; (try (rw [drewN_self w15]; generalize hq_ : World.drewN w15 _ = w15; replace HO0_0 : Aside0 (Kd.V k55 55 w15 w.heap.size (fun k_ => ((P0_0_ k_ ∨ P0_1_ k_ ∨ P0_3_ k_) ∨ w.heap.size ≤ k_) ∧ k_ ≠ gb353 ∧ k_ ≠ gb354) (.slice A0_0 l0_0.length c0_0) l0_0) := ⟨by rw [← hq_]; exact (vM_ HO0_0.out)⟩; replace HO0_1 : Aside0 (Kd.V k60 60 w15 w.heap.size (fun k_ => ((P0_0_ k_ ∨ P0_1_ k_ ∨ P0_3_ k_) ∨ w.heap.size ≤ k_) ∧ k_ ≠ gb353 ∧ k_ ≠ gb354) (.slice A0_1 l0_1.length c0_1) l0_1) := ⟨by rw [← hq_]; exact (vM_ HO0_1.out)⟩; replace HO0_3 : Aside0 (Kd.V k39 39 w15 w.heap.size (fun k_ => ((P0_0_ k_ ∨ P0_1_ k_ ∨ P0_3_ k_) ∨ w.heap.size ≤ k_) ∧ k_ ≠ gb353 ∧ k_ ≠ gb354) (.slice A0_3 l0_3.length c0_3) l0_3) := ⟨by rw [← hq_]; exact (vM_ HO0_3.out)⟩; replace BK353 : Aside0 (w15.heap[gb353]? = some (.cells #[.slice A0_0 l0_0.length c0_0, .slice A0_1 l0_1.length c0_1, .int .u64 a0_2, .slice A0_3 l0_3.length c0_3] 29 (0, 0))) := ⟨by rw [← hq_]; exact (bT_ BK353.out)⟩; replace BK354 : Aside0 (w15.heap[gb354]? = some (.cells #[.slice none 0 0, .slice none 0 0, .int .u64 0, .slice none 0 0] 29 (0, 0))) := ⟨by rw [← hq_]; exact (bT_ BK354.out)⟩; replace HB : Aside0 (Below w.heap.size w w15) := ⟨by rw [← hq_]; exact beT_⟩; clear hq_)); have hnb16 := NB353_354.out; have hnc16 := NB354_353.out; obtain ⟨hcz17_0, hcz17_1, hcz17_2, hcz17_3, hfz17_0, hfz17_1, hfz17_2, hfz17_3⟩ := b4_ BK353.out) | ((with_reducible refine gate_callee (f := 42) rfl ?_); refine gL_ (some 23) Try.func42 #[.agg #[.slice A0_0 l0_0.length c0_0, .slice A0_1 l0_1.length c0_1, .int .u64 a0_2, .slice A0_3 l0_3.length c0_3], .int .u32 a1, .int .u32 a2] ?_; (with_reducible refine (ferryref04_without.calls k _ _ l0_0 _ _ l0_1 a0_2 _ _ l0_3 a1 a2 t356 _ ?side1 ?side2 ?side3 ?side4 ?side5 ?side6 A12.out).mono ?_); (case side1 => exact cT_ (Kd.V_reads' HO0_0.out).2.2); (case side2 => exact (Kd.V_reads' HO0_0.out).2.1); (case side3 => exact cT_ (Kd.V_reads' HO0_1.out).2.2); (case side4 => exact (Kd.V_reads' HO0_1.out).2.1); (case side5 => exact cT_ (Kd.V_reads' HO0_3.out).2.2); (case side6 => exact (Kd.V_reads' HO0_3.out).2.1); rintro e w18 ⟨v357, rfl, ho0, hb⟩; refine ⟨_, rfl, ?_⟩; have HO358 := Aside0.mk (Kd.R_lower (Kd.R_newM (M := fun k_ => (w.heap.size ≤ k_)) ho0 (below_size beT_) (fun k_ h_ => h_)) (below_size beT_)); replace HO0_0 := Aside0.mk (Kd.V_elder' (vT_ HO0_0.out) (Kd.R_base ho0) hb); replace HO0_1 := Aside0.mk (Kd.V_elder' (vT_ HO0_1.out) (Kd.R_base ho0) hb); replace HO0_3 := Aside0.mk (Kd.V_elder' (vT_ HO0_3.out) (Kd.R_base ho0) hb); replace BK353 := kB_ BK353 hb; replace BK354 := kB_ BK354 hb; replace HB := hB_ hb; (try clear hb); (try clear hb2); (try clear hk); (try clear hi); (try clear ho0); obtain ⟨Ao19, co19, eo19⟩ := Kd.R_slice HO358.out; subst eo19; obtain ⟨hcz20_0, hcz20_1, hcz20_2, hcz20_3, hfz20_0, hfz20_1, hfz20_2, hfz20_3⟩ := b4_ BK353.out; obtain ⟨hcz21_0, hcz21_1, hcz21_2, hcz21_3, hfz21_0, hfz21_1, hfz21_2, hfz21_3⟩ := b4_ BK354.out))
    refine bodyPost_ret (results_ct rfl _ _ gb354 29 #[.slice A0_0 l0_0.length c0_0, .slice A0_1 l0_1.length c0_1, .int .u64 a0_2, .slice A0_3 l0_3.length c0_3] (0, 0) _ rfl (kP_ BK354.out) Try.underlying29 rfl (by kernel_rfl)) rfl ?_
    exact ⟨_, _, _, r3_, (vF_ HO0_0.out), (vF_ HO0_1.out), (vF_ HO0_3.out), beT_⟩
  rw [if_neg c13] at H
  have c13b0 : decide (((wrap64 (256 - (t356.length : Int))) % 4294967296) < a2) = false := decide_eq_false c13
  (try (have c13bs0 := c13b0; simp only [Int.add_emod_emod, Int.emod_add_emod, Int.sub_emod_emod, Int.emod_sub_emod] at c13bs0))
  clear c13
  replace H := Option.bind_eq_some_iff.mp H
  obtain ⟨t360, A220, H⟩ := H
  have A22 := Aside0.mk A220
  clear A220
  have H' := Aside0.mk H
  clear H
  go_enter Try.func17, Try.ntmps17
  go_wp2_with (first | ((with_reducible refine gate_dst (N := 4) rfl ?_); refine bE_ 4 #[.slice A0_0 l0_0.length c0_0, .slice A0_1 l0_1.length c0_1, .int .u64 a0_2, .slice A0_3 l0_3.length c0_3] 29 ?_; intro gb353 hg w23 hbox hb; have BK353 := Aside0.mk hbox; have GW353 := geT_ w.heap.size hg; have GE353 := geT_ w.heap.size hg; replace HO0_0 := vE_ HO0_0.out hg hb; replace HO0_1 := vE_ HO0_1.out hg hb; replace HO0_3 := vE_ HO0_3.out hg hb; replace HB := hB_ hb; clear hb hbox hg) | ((with_reducible refine gate_dst (N := 8) rfl ?_); refine bE_ 8 #[.slice none 0 0, .slice none 0 0, .int .u64 0, .slice none 0 0] 29 ?_; intro gb354 hg w24 hbox hb; have BK354 := Aside0.mk hbox; have GW354 := geT_ w.heap.size hg; have GE354 := geT_ w.heap.size hg; have NB353_354 := nlT_ BK353.out hg; have NB354_353 := ngT_ BK353.out hg; replace HO0_0 := vE_ HO0_0.out hg hb; replace HO0_1 := vE_ HO0_1.out hg hb; replace HO0_3 := vE_ HO0_3.out hg hb; replace BK353 := kB_ BK353 hb; replace HB := hB_ hb; clear hb hbox hg) | ((with_reducible refine gate_callee (f := 41) rfl ?_); refine gL_ (some 18) Try.func41 #[.int .u32 a1, .int .u32 a2, .int .i64 a3] ?_; (with_reducible refine (ferryref04_wrong.calls a1 a2 a3 false _ A5.out).mono ?_); rintro e w' ⟨rfl, ⟨nd, rfl⟩⟩; refine ⟨_, rfl, ?_⟩; (try (rw [drewN_self w24]; generalize hq_ : World.drewN w24 _ = w24; replace HO0_0 : Aside0 (Kd.V k55 55 w24 w.heap.size (fun k_ => ((P0_0_ k_ ∨ P0_1_ k_ ∨ P0_3_ k_) ∨ w.heap.size ≤ k_) ∧ k_ ≠ gb353 ∧ k_ ≠ gb354) (.slice A0_0 l0_0.length c0_0) l0_0) := ⟨by rw [← hq_]; exact (vM_ HO0_0.out)⟩; replace HO0_1 : Aside0 (Kd.V k60 60 w24 w.heap.size (fun k_ => ((P0_0_ k_ ∨ P0_1_ k_ ∨ P0_3_ k_) ∨ w.heap.size ≤ k_) ∧ k_ ≠ gb353 ∧ k_ ≠ gb354) (.slice A0_1 l0_1.length c0_1) l0_1) := ⟨by rw [← hq_]; exact (vM_ HO0_1.out)⟩; replace HO0_3 : Aside0 (Kd.V k39 39 w24 w.heap.size (fun k_ => ((P0_0_ k_ ∨ P0_1_ k_ ∨ P0_3_ k_) ∨ w.heap.size ≤ k_) ∧ k_ ≠ gb353 ∧ k_ ≠ gb354) (.slice A0_3 l0_3.length c0_3) l0_3) := ⟨by rw [← hq_]; exact (vM_ HO0_3.out)⟩; replace BK353 : Aside0 (w24.heap[gb353]? = some (.cells #[.slice A0_0 l0_0.length c0_0, .slice A0_1 l0_1.length c0_1, .int .u64 a0_2, .slice A0_3 l0_3.length c0_3] 29 (0, 0))) := ⟨by rw [← hq_]; exact (bT_ BK353.out)⟩; replace BK354 : Aside0 (w24.heap[gb354]? = some (.cells #[.slice none 0 0, .slice none 0 0, .int .u64 0, .slice none 0 0] 29 (0, 0))) := ⟨by rw [← hq_]; exact (bT_ BK354.out)⟩; replace HB : Aside0 (Below w.heap.size w w24) := ⟨by rw [← hq_]; exact beT_⟩; clear hq_)); have hnb25 := NB353_354.out; have hnc25 := NB354_353.out; obtain ⟨hcz26_0, hcz26_1, hcz26_2, hcz26_3, hfz26_0, hfz26_1, hfz26_2, hfz26_3⟩ := b4_ BK353.out) | ((with_reducible refine gate_callee (f := 42) rfl ?_); refine gL_ (some 23) Try.func42 #[.agg #[.slice A0_0 l0_0.length c0_0, .slice A0_1 l0_1.length c0_1, .int .u64 a0_2, .slice A0_3 l0_3.length c0_3], .int .u32 a1, .int .u32 a2] ?_; (with_reducible refine (ferryref04_without.calls k _ _ l0_0 _ _ l0_1 a0_2 _ _ l0_3 a1 a2 t356 _ ?side1 ?side2 ?side3 ?side4 ?side5 ?side6 A12.out).mono ?_); (case side1 => exact cT_ (Kd.V_reads' HO0_0.out).2.2); (case side2 => exact (Kd.V_reads' HO0_0.out).2.1); (case side3 => exact cT_ (Kd.V_reads' HO0_1.out).2.2); (case side4 => exact (Kd.V_reads' HO0_1.out).2.1); (case side5 => exact cT_ (Kd.V_reads' HO0_3.out).2.2); (case side6 => exact (Kd.V_reads' HO0_3.out).2.1); rintro e w27 ⟨v357, rfl, ho0, hb⟩; refine ⟨_, rfl, ?_⟩; have HO358 := Aside0.mk (Kd.R_lower (Kd.R_newM (M := fun k_ => (w.heap.size ≤ k_)) ho0 (below_size beT_) (fun k_ h_ => h_)) (below_size beT_)); replace HO0_0 := Aside0.mk (Kd.V_elder' (vT_ HO0_0.out) (Kd.R_base ho0) hb); replace HO0_1 := Aside0.mk (Kd.V_elder' (vT_ HO0_1.out) (Kd.R_base ho0) hb); replace HO0_3 := Aside0.mk (Kd.V_elder' (vT_ HO0_3.out) (Kd.R_base ho0) hb); replace BK353 := kB_ BK353 hb; replace BK354 := kB_ BK354 hb; replace HB := hB_ hb; (try clear hb); (try clear hb2); (try clear hk); (try clear hi); (try clear ho0); obtain ⟨Ao28, co28, eo28⟩ := Kd.R_slice HO358.out; subst eo28; obtain ⟨hcz29_0, hcz29_1, hcz29_2, hcz29_3, hfz29_0, hfz29_1, hfz29_2, hfz29_3⟩ := b4_ BK353.out) | ((with_reducible refine gate_dst (N := 11) rfl ?_); refine bE_ 11 #[.slice none 0 0, .slice none 0 0] 25 ?_; intro gb359 hg w30 hbox hb; have BK359 := Aside0.mk hbox; have GW359 := geT_ w.heap.size hg; have GE359 := geT_ w.heap.size hg; have NB353_359 := nlT_ BK353.out hg; have NB359_353 := ngT_ BK353.out hg; have NB354_359 := nlT_ BK354.out hg; have NB359_354 := ngT_ BK354.out hg; replace HO0_0 := vE_ HO0_0.out hg hb; replace HO0_1 := vE_ HO0_1.out hg hb; replace HO0_3 := vE_ HO0_3.out hg hb; replace HO358 := rB_ HO358.out hb; replace BK353 := kB_ BK353 hb; replace BK354 := kB_ BK354 hb; replace HB := hB_ hb; clear hb hbox hg; have hnb31 := NB359_353.out; have hnc31 := NB353_359.out; have hnb32 := NB359_354.out; have hnc32 := NB354_359.out; obtain ⟨hcz33_0, hcz33_1, hfz33_0, hfz33_1⟩ := b2_ BK359.out; obtain ⟨hcz34_0, hcz34_1, hcz34_2, hcz34_3, hfz34_0, hfz34_1, hfz34_2, hfz34_3⟩ := b4_ BK353.out) | ((with_reducible refine gate_callee (f := 43) rfl ?_); refine gL_ (some 35) Try.func43 #[.agg #[.slice A0_0 l0_0.length c0_0, .slice A0_1 l0_1.length c0_1, .int .u64 a0_2, .slice A0_3 l0_3.length c0_3], .int .u32 a1] ?_; (with_reducible refine (ferryref04_hostPage.calls _ _ l0_0 _ _ l0_1 a0_2 _ _ l0_3 a1 t360 _ ?side1 ?side2 ?side3 ?side4 ?side5 ?side6 A22.out).mono ?_); (case side1 => refine (Kd.V_reads' (e := 55) (base := w.heap.size) (ok := fun _ => True) (n := l0_0.length) (c := c0_0) ?_).2.2; exact (by (with_reducible repeat (first | apply Kd.V_alloc | apply Kd.V_drewN | apply Kd.V_drew)); exact (Kd.V_mono (Kd.V_far (p := ⟨gb359, 1, none⟩) (Kd.V_far (p := ⟨gb359, 0, none⟩) (Kd.V_mono HO0_0.out (fun k_ hk => (⟨hk, by first | exact hk.2 | exact hk.2.1 | exact hk.2.2| omega | grind⟩ : _ ∧ k_ ≠ gb359))) (fun _ hk => hk.2) (.slice A0_0 l0_0.length c0_0)) (fun _ hk => hk.2) (.slice A0_1 l0_1.length c0_1)) (fun _ _ => trivial)))); (case side2 => exact (Kd.V_reads' HO0_0.out).2.1); (case side3 => refine (Kd.V_reads' (e := 60) (base := w.heap.size) (ok := fun _ => True) (n := l0_1.length) (c := c0_1) ?_).2.2; exact (by (with_reducible repeat (first | apply Kd.V_alloc | apply Kd.V_drewN | apply Kd.V_drew)); exact (Kd.V_mono (Kd.V_far (p := ⟨gb359, 1, none⟩) (Kd.V_far (p := ⟨gb359, 0, none⟩) (Kd.V_mono HO0_1.out (fun k_ hk => (⟨hk, by first | exact hk.2 | exact hk.2.1 | exact hk.2.2| omega | grind⟩ : _ ∧ k_ ≠ gb359))) (fun _ hk => hk.2) (.slice A0_0 l0_0.length c0_0)) (fun _ hk => hk.2) (.slice A0_1 l0_1.length c0_1)) (fun _ _ => trivial)))); (case side4 => exact (Kd.V_reads' HO0_1.out).2.1); (case side5 => refine (Kd.V_reads' (e := 39) (base := w.heap.size) (ok := fun _ => True) (n := l0_3.length) (c := c0_3) ?_).2.2; exact (by (with_reducible repeat (first | apply Kd.V_alloc | apply Kd.V_drewN | apply Kd.V_drew)); exact (Kd.V_mono (Kd.V_far (p := ⟨gb359, 1, none⟩) (Kd.V_far (p := ⟨gb359, 0, none⟩) (Kd.V_mono HO0_3.out (fun k_ hk => (⟨hk, by first | exact hk.2 | exact hk.2.1 | exact hk.2.2| omega | grind⟩ : _ ∧ k_ ≠ gb359))) (fun _ hk => hk.2) (.slice A0_0 l0_0.length c0_0)) (fun _ hk => hk.2) (.slice A0_1 l0_1.length c0_1)) (fun _ _ => trivial)))); (case side6 => exact (Kd.V_reads' HO0_3.out).2.1); rintro e w35 ⟨rfl, hb⟩; refine ⟨_, rfl, ?_⟩; replace HO0_0 := Aside0.mk (Kd.V_below (by (with_reducible repeat (first | apply Kd.V_alloc | apply Kd.V_drewN | apply Kd.V_drew)); exact (Kd.V_mono (Kd.V_far (p := ⟨gb359, 1, none⟩) (Kd.V_far (p := ⟨gb359, 0, none⟩) (Kd.V_mono HO0_0.out (fun k_ hk => (⟨hk, by first | exact hk.2 | exact hk.2.1 | exact hk.2.2| omega | grind⟩ : _ ∧ k_ ≠ gb359))) (fun _ hk => hk.2) (.slice A0_0 l0_0.length c0_0)) (fun _ hk => hk.2) (.slice A0_1 l0_1.length c0_1)) (fun _ h_ => h_.1))) hb); replace HO0_1 := Aside0.mk (Kd.V_below (by (with_reducible repeat (first | apply Kd.V_alloc | apply Kd.V_drewN | apply Kd.V_drew)); exact (Kd.V_mono (Kd.V_far (p := ⟨gb359, 1, none⟩) (Kd.V_far (p := ⟨gb359, 0, none⟩) (Kd.V_mono HO0_1.out (fun k_ hk => (⟨hk, by first | exact hk.2 | exact hk.2.1 | exact hk.2.2| omega | grind⟩ : _ ∧ k_ ≠ gb359))) (fun _ hk => hk.2) (.slice A0_0 l0_0.length c0_0)) (fun _ hk => hk.2) (.slice A0_1 l0_1.length c0_1)) (fun _ h_ => h_.1))) hb); replace HO0_3 := Aside0.mk (Kd.V_below (by (with_reducible repeat (first | apply Kd.V_alloc | apply Kd.V_drewN | apply Kd.V_drew)); exact (Kd.V_mono (Kd.V_far (p := ⟨gb359, 1, none⟩) (Kd.V_far (p := ⟨gb359, 0, none⟩) (Kd.V_mono HO0_3.out (fun k_ hk => (⟨hk, by first | exact hk.2 | exact hk.2.1 | exact hk.2.2| omega | grind⟩ : _ ∧ k_ ≠ gb359))) (fun _ hk => hk.2) (.slice A0_0 l0_0.length c0_0)) (fun _ hk => hk.2) (.slice A0_1 l0_1.length c0_1)) (fun _ h_ => h_.1))) hb); replace HO358 := Aside0.mk (Kd.R_below (by (with_reducible repeat (first | apply Kd.R_alloc | apply Kd.R_drewN | apply Kd.R_drew)); exact (Kd.R_mono (Kd.R_far (p := ⟨gb359, 1, none⟩) (Kd.R_far (p := ⟨gb359, 0, none⟩) (Kd.R_types HO358.out BK359.out (by decide)) (fun _ hk => hk.2) (.slice A0_0 l0_0.length c0_0)) (fun _ hk => hk.2) (.slice A0_1 l0_1.length c0_1)) (fun _ h_ => h_.1))) hb); replace BK353 := kB_ BK353 hb; replace BK354 := kB_ BK354 hb; replace BK359 := Aside0.mk (blk_below (g := gb359) (o := .cells #[.slice A0_0 l0_0.length c0_0, .slice A0_1 l0_1.length c0_1] 25 (0, 0)) (kP_ BK359.out) hb); replace HB := hB_ hb; (try clear hb); (try clear hb2); (try clear hk); (try clear hi)))
  go_loopg [12] k (fun kq v12 w' => ∃ (x12_1 : Int) (x355002_1 : Int) (x360000_1 : List (S55)) (x360001_1 : List (S60)) (u360000 : Value) (u360001 : Value), v12 = .int .u64 x12_1 ∧ Aside0 (ferryref04_Map.l0 kq a1 a2 a3 t356 x12_1 l0_0 l0_1 a0_2 l0_3 x360000_1 x360001_1 = some (r1, r2, r3, r4, r5)) ∧ Aside0 (kq ≤ k) ∧ Aside0 (Kd.R k39 39 w' w.heap.size (fun k_ => (w.heap.size ≤ k_)) (.slice Ao28 t356.length co28) t356) ∧ Aside0 (Kd.V k55 55 w' w.heap.size (fun k_ => ((P0_0_ k_ ∨ P0_1_ k_ ∨ P0_3_ k_) ∨ w.heap.size ≤ k_) ∧ some k_ ≠ ((.slice Ao28 t356.length co28) : Value).ownBlock ∧ k_ ≠ gb353 ∧ k_ ≠ gb354 ∧ k_ ≠ gb359) (.slice A0_0 l0_0.length c0_0) l0_0) ∧ Aside0 (Kd.V k60 60 w' w.heap.size (fun k_ => ((P0_0_ k_ ∨ P0_1_ k_ ∨ P0_3_ k_) ∨ w.heap.size ≤ k_) ∧ some k_ ≠ ((.slice Ao28 t356.length co28) : Value).ownBlock ∧ k_ ≠ gb353 ∧ k_ ≠ gb354 ∧ k_ ≠ gb359) (.slice A0_1 l0_1.length c0_1) l0_1) ∧ Aside0 (Kd.V k39 39 w' w.heap.size (fun k_ => ((P0_0_ k_ ∨ P0_1_ k_ ∨ P0_3_ k_) ∨ w.heap.size ≤ k_) ∧ some k_ ≠ ((.slice Ao28 t356.length co28) : Value).ownBlock ∧ k_ ≠ gb353 ∧ k_ ≠ gb354 ∧ k_ ≠ gb359) (.slice A0_3 l0_3.length c0_3) l0_3) ∧ Aside0 (Kd.V k55 55 w' w.heap.size (fun k_ => ((P0_0_ k_ ∨ P0_1_ k_ ∨ P0_3_ k_) ∨ w.heap.size ≤ k_) ∧ some k_ ≠ ((.slice Ao28 t356.length co28) : Value).ownBlock ∧ k_ ≠ gb353 ∧ k_ ≠ gb354 ∧ k_ ≠ gb359) u360000 x360000_1) ∧ Aside0 (Kd.V k60 60 w' w.heap.size (fun k_ => ((P0_0_ k_ ∨ P0_1_ k_ ∨ P0_3_ k_) ∨ w.heap.size ≤ k_) ∧ some k_ ≠ ((.slice Ao28 t356.length co28) : Value).ownBlock ∧ k_ ≠ gb353 ∧ k_ ≠ gb354 ∧ k_ ≠ gb359) u360001 x360001_1) ∧ Aside0 (w'.heap[gb353]? = some (.cells #[(.slice A0_0 l0_0.length c0_0), (.slice A0_1 l0_1.length c0_1), .int .u64 a0_2, (.slice A0_3 l0_3.length c0_3)] 29 (0, 0))) ∧ Aside0 (w'.heap[gb354]? = some (.cells #[(.slice none 0 0), (.slice none 0 0), .int .u64 x355002_1, (.slice none 0 0)] 29 (0, 0))) ∧ Aside0 (w'.heap[gb359]? = some (.cells #[u360000, u360001] 25 (0, 0))) ∧ Aside0 (Below w.heap.size w w'))
  case atStart => exact ⟨(t360), (0), (l0_0), (l0_1), (.slice A0_0 l0_0.length c0_0), (.slice A0_1 l0_1.length c0_1), r1_, H', ⟨Nat.le_refl _⟩, ⟨rM_ HO358.out⟩, ⟨vM_ HO0_0.out⟩, ⟨vM_ HO0_1.out⟩, ⟨vM_ HO0_3.out⟩, ⟨vM_ HO0_0.out⟩, ⟨vM_ HO0_1.out⟩, ⟨bT_ BK353.out⟩, ⟨bT_ BK354.out⟩, ⟨bT_ BK359.out⟩, ⟨beT_⟩⟩
  case round =>
    clear H'
    try clear c1
    try clear c2
    try clear p2
    try clear c3
    try clear c4
    try clear c6
    try clear p6
    try clear c9
    try clear c13
    try clear c13b0
    try clear c16
    try clear c17
    try clear c25
    try clear c31
    try clear c32
    try clear hcz10_0
    try clear hcz10_1
    try clear hcz10_2
    try clear hcz10_3
    try clear hcz11_0
    try clear hcz11_1
    try clear hcz11_2
    try clear hcz11_3
    try clear hcz17_0
    try clear hcz17_1
    try clear hcz17_2
    try clear hcz17_3
    try clear hcz20_0
    try clear hcz20_1
    try clear hcz20_2
    try clear hcz20_3
    try clear hcz21_0
    try clear hcz21_1
    try clear hcz21_2
    try clear hcz21_3
    try clear hcz26_0
    try clear hcz26_1
    try clear hcz26_2
    try clear hcz26_3
    try clear hcz29_0
    try clear hcz29_1
    try clear hcz29_2
    try clear hcz29_3
    try clear hcz33_0
    try clear hcz33_1
    try clear hcz34_0
    try clear hcz34_1
    try clear hcz34_2
    try clear hcz34_3
    try clear hfz10_0
    try clear hfz10_1
    try clear hfz10_2
    try clear hfz10_3
    try clear hfz11_0
    try clear hfz11_1
    try clear hfz11_2
    try clear hfz11_3
    try clear hfz17_0
    try clear hfz17_1
    try clear hfz17_2
    try clear hfz17_3
    try clear hfz20_0
    try clear hfz20_1
    try clear hfz20_2
    try clear hfz20_3
    try clear hfz21_0
    try clear hfz21_1
    try clear hfz21_2
    try clear hfz21_3
    try clear hfz26_0
    try clear hfz26_1
    try clear hfz26_2
    try clear hfz26_3
    try clear hfz29_0
    try clear hfz29_1
    try clear hfz29_2
    try clear hfz29_3
    try clear hfz33_0
    try clear hfz33_1
    try clear hfz34_0
    try clear hfz34_1
    try clear hfz34_2
    try clear hfz34_3
    obtain ⟨x12_1, x355002_1, x360000_1, x360001_1, u360000, u360001, rfl, HA, HK1, HO_10, HO_354000, HO_354001, HO_354003, HO_360000, HO_360001, BK353, BK354, BK359, HB⟩ := hrel
    cases gk with
    | zero => exact absurd HA.out (by simp [ferryref04_Map.l0])
    | succ k1 =>
      have H := HA.out
      clear HA
      simp only [ferryref04_Map.l0] at H
      replace H := Option.bind_eq_some_iff.mp H
      obtain ⟨t361, A360, H⟩ := H
      have A36 := Aside0.mk A360
      clear A360
      by_cases c37 : x12_1 ≤ t361
      · rw [if_pos c37] at H
        have c37b0 : decide (x12_1 ≤ t361) = true := decide_eq_true c37
        clear c37
        replace H := Option.bind_eq_some_iff.mp H
        obtain ⟨t372, A380, H⟩ := H
        have A38 := Aside0.mk A380
        clear A380
        by_cases c39 : t372 = true
        · subst c39
          replace H := hP_ H
          have H' := Aside0.mk H
          clear H
          have hnb40 := NB353_354.out
          have hnc40 := NB354_353.out
          have hnb41 := NB353_359.out
          have hnc41 := NB359_353.out
          obtain ⟨hcz42_0, hcz42_1, hcz42_2, hcz42_3, hfz42_0, hfz42_1, hfz42_2, hfz42_3⟩ := b4_ BK353.out
          go_wp2_with (first | ((with_reducible refine gate_callee (f := 43) rfl ?_); refine gL_ (some 42) Try.func43 #[.agg #[.slice A0_0 l0_0.length c0_0, .slice A0_1 l0_1.length c0_1, .int .u64 a0_2, .slice A0_3 l0_3.length c0_3], .int .u32 ((((a1 + a2) % 4294967296) - 1) % 4294967296)] ?_; (with_reducible refine (ferryref04_hostPage.calls _ _ l0_0 _ _ l0_1 a0_2 _ _ l0_3 ((((a1 + a2) % 4294967296) - 1) % 4294967296) t361 _ ?side1 ?side2 ?side3 ?side4 ?side5 ?side6 A36.out).mono ?_); (case side1 => exact cT_ (Kd.V_reads' HO_354000.out).2.2); (case side2 => exact (Kd.V_reads' HO_354000.out).2.1); (case side3 => exact cT_ (Kd.V_reads' HO_354001.out).2.2); (case side4 => exact (Kd.V_reads' HO_354001.out).2.1); (case side5 => exact cT_ (Kd.V_reads' HO_354003.out).2.2); (case side6 => exact (Kd.V_reads' HO_354003.out).2.1); rintro e w43 ⟨rfl, hb⟩; refine ⟨_, rfl, ?_⟩; replace HO_10 := rB_ HO_10.out hb; replace HO_354000 := vB_ HO_354000.out hb; replace HO_354001 := vB_ HO_354001.out hb; replace HO_354003 := vB_ HO_354003.out hb; replace HO_360000 := vB_ HO_360000.out hb; replace HO_360001 := vB_ HO_360001.out hb; replace BK353 := kB_ BK353 hb; replace BK354 := kB_ BK354 hb; replace BK359 := kB_ BK359 hb; replace HB := hB_ hb; (try clear hb); (try clear hb2); (try clear hk); (try clear hi); obtain ⟨hcz44_0, hcz44_1, hcz44_2, hcz44_3, hfz44_0, hfz44_1, hfz44_2, hfz44_3⟩ := b4_ BK353.out) | ((with_reducible refine gate_callee (f := 30) rfl ?_); refine gL_ (some 48) Try.func30 #[.agg #[.slice A0_0 l0_0.length c0_0, .slice A0_1 l0_1.length c0_1, .int .u64 a0_2, .slice A0_3 l0_3.length c0_3], .int .u64 x12_1] ?_; (with_reducible refine (ferryref04_used.calls k1 _ _ l0_0 _ _ l0_1 a0_2 _ _ l0_3 x12_1 true _ ?side1 ?side2 ?side3 ?side4 ?side5 ?side6 A38.out).mono ?_); (case side1 => exact cT_ (Kd.V_reads' HO_354000.out).2.2); (case side2 => exact (Kd.V_reads' HO_354000.out).2.1); (case side3 => exact cT_ (Kd.V_reads' HO_354001.out).2.2); (case side4 => exact (Kd.V_reads' HO_354001.out).2.1); (case side5 => exact cT_ (Kd.V_reads' HO_354003.out).2.2); (case side6 => exact (Kd.V_reads' HO_354003.out).2.1); rintro e w45 ⟨rfl, hb⟩; refine ⟨_, rfl, ?_⟩; replace HO_10 := rB_ HO_10.out hb; replace HO_354000 := vB_ HO_354000.out hb; replace HO_354001 := vB_ HO_354001.out hb; replace HO_354003 := vB_ HO_354003.out hb; replace HO_360000 := vB_ HO_360000.out hb; replace HO_360001 := vB_ HO_360001.out hb; replace BK353 := kB_ BK353 hb; replace BK354 := kB_ BK354 hb; replace BK359 := kB_ BK359 hb; replace HB := hB_ hb; (try clear hb); (try clear hb2); (try clear hk); (try clear hi)))
          go_roundg k1
          case measure => have := HK1.out; omega
          case rel => exact ⟨(IntKind.u64.wrap (x12_1 + 1)), (x355002_1), (x360000_1), (x360001_1), (u360000), (u360001), r1_, H', ⟨by have := HK1.out; omega⟩, ⟨rT_ HO_10.out⟩, ⟨vT_ HO_354000.out⟩, ⟨vT_ HO_354001.out⟩, ⟨vT_ HO_354003.out⟩, ⟨vT_ HO_360000.out⟩, ⟨vT_ HO_360001.out⟩, ⟨bT_ BK353.out⟩, ⟨bT_ BK354.out⟩, ⟨bT_ BK359.out⟩, ⟨beT_⟩⟩
        replace c39 := Bool.eq_false_iff.mpr c39
        subst c39
        replace H := hN_ H
        replace H := Option.bind_eq_some_iff.mp H
        obtain ⟨⟨t373, t376, t379⟩, A460, H⟩ := H
        have A46 := Aside0.mk A460
        clear A460
        by_cases c47 : t379 = 0
        · rw [if_pos c47] at H
          have c47b0 : (t379 == 0) = true := beq_iff_eq.mpr c47
          have c47b1 : (t379 != 0) = false := bne_eq_false_iff_eq.mpr c47
          clear c47
          have H' := Aside0.mk H
          clear H
          have hnb48 := NB353_354.out
          have hnc48 := NB354_353.out
          have hnb49 := NB353_359.out
          have hnc49 := NB359_353.out
          obtain ⟨hcz50_0, hcz50_1, hcz50_2, hcz50_3, hfz50_0, hfz50_1, hfz50_2, hfz50_3⟩ := b4_ BK353.out
          go_wp2_with (first | ((with_reducible refine gate_callee (f := 43) rfl ?_); refine gL_ (some 42) Try.func43 #[.agg #[.slice A0_0 l0_0.length c0_0, .slice A0_1 l0_1.length c0_1, .int .u64 a0_2, .slice A0_3 l0_3.length c0_3], .int .u32 ((((a1 + a2) % 4294967296) - 1) % 4294967296)] ?_; (with_reducible refine (ferryref04_hostPage.calls _ _ l0_0 _ _ l0_1 a0_2 _ _ l0_3 ((((a1 + a2) % 4294967296) - 1) % 4294967296) t361 _ ?side1 ?side2 ?side3 ?side4 ?side5 ?side6 A36.out).mono ?_); (case side1 => exact cT_ (Kd.V_reads' HO_354000.out).2.2); (case side2 => exact (Kd.V_reads' HO_354000.out).2.1); (case side3 => exact cT_ (Kd.V_reads' HO_354001.out).2.2); (case side4 => exact (Kd.V_reads' HO_354001.out).2.1); (case side5 => exact cT_ (Kd.V_reads' HO_354003.out).2.2); (case side6 => exact (Kd.V_reads' HO_354003.out).2.1); rintro e w51 ⟨rfl, hb⟩; refine ⟨_, rfl, ?_⟩; replace HO_10 := rB_ HO_10.out hb; replace HO_354000 := vB_ HO_354000.out hb; replace HO_354001 := vB_ HO_354001.out hb; replace HO_354003 := vB_ HO_354003.out hb; replace HO_360000 := vB_ HO_360000.out hb; replace HO_360001 := vB_ HO_360001.out hb; replace BK353 := kB_ BK353 hb; replace BK354 := kB_ BK354 hb; replace BK359 := kB_ BK359 hb; replace HB := hB_ hb; (try clear hb); (try clear hb2); (try clear hk); (try clear hi); obtain ⟨hcz52_0, hcz52_1, hcz52_2, hcz52_3, hfz52_0, hfz52_1, hfz52_2, hfz52_3⟩ := b4_ BK353.out) | ((with_reducible refine gate_callee (f := 30) rfl ?_); refine gL_ (some 48) Try.func30 #[.agg #[.slice A0_0 l0_0.length c0_0, .slice A0_1 l0_1.length c0_1, .int .u64 a0_2, .slice A0_3 l0_3.length c0_3], .int .u64 x12_1] ?_; (with_reducible refine (ferryref04_used.calls k1 _ _ l0_0 _ _ l0_1 a0_2 _ _ l0_3 x12_1 false _ ?side1 ?side2 ?side3 ?side4 ?side5 ?side6 A38.out).mono ?_); (case side1 => exact cT_ (Kd.V_reads' HO_354000.out).2.2); (case side2 => exact (Kd.V_reads' HO_354000.out).2.1); (case side3 => exact cT_ (Kd.V_reads' HO_354001.out).2.2); (case side4 => exact (Kd.V_reads' HO_354001.out).2.1); (case side5 => exact cT_ (Kd.V_reads' HO_354003.out).2.2); (case side6 => exact (Kd.V_reads' HO_354003.out).2.1); rintro e w53 ⟨rfl, hb⟩; refine ⟨_, rfl, ?_⟩; replace HO_10 := rB_ HO_10.out hb; replace HO_354000 := vB_ HO_354000.out hb; replace HO_354001 := vB_ HO_354001.out hb; replace HO_354003 := vB_ HO_354003.out hb; replace HO_360000 := vB_ HO_360000.out hb; replace HO_360001 := vB_ HO_360001.out hb; replace BK353 := kB_ BK353 hb; replace BK354 := kB_ BK354 hb; replace BK359 := kB_ BK359 hb; replace HB := hB_ hb; (try clear hb); (try clear hb2); (try clear hk); (try clear hi); have hnb54 := NB359_354.out; have hnc54 := NB354_359.out; obtain ⟨hcz55_0, hcz55_1, hfz55_0, hfz55_1⟩ := b2_ BK359.out; obtain ⟨Ao56, co56, eo56⟩ := Kd.V_slice HO_360000.out; subst eo56; obtain ⟨Ao57, co57, eo57⟩ := Kd.V_slice HO_360001.out; subst eo57) | ((with_reducible refine gate_callee (f := 44) rfl ?_); refine gL_ (some 52) Try.func44 #[.agg #[.slice Ao56 x360000_1.length co56, .slice Ao57 x360001_1.length co57], .int .u64 x12_1, .int .u64 1, .int .i64 3] ?_; (with_reducible refine (ferryref03_Map.calls k1 (fun k_ => (((P0_0_ k_ ∨ P0_1_ k_ ∨ P0_3_ k_) ∨ w.heap.size ≤ k_) ∧ (some k_ ≠ (.slice Ao28 t356.length co28 : Value).ownBlock ∧ (k_ ≠ gb353 ∧ (k_ ≠ gb354 ∧ k_ ≠ gb359))))) _ _ x360000_1 (fun k_ => (((P0_0_ k_ ∨ P0_1_ k_ ∨ P0_3_ k_) ∨ w.heap.size ≤ k_) ∧ (some k_ ≠ (.slice Ao28 t356.length co28 : Value).ownBlock ∧ (k_ ≠ gb353 ∧ (k_ ≠ gb354 ∧ k_ ≠ gb359))))) _ _ x360001_1 x12_1 1 3 t373 t376 t379 _ ?side1 ?side2 A46.out).mono ?_); (case side1 => exact HO_360000.out); (case side2 => exact HO_360001.out); rintro e w58 ⟨v374, v377, rfl, ho0, ho1, hb⟩; refine ⟨_, rfl, ?_⟩; have HO375 := Aside0.mk (Kd.V_lower (Kd.V_mono (ok' := fun k_ => ((P0_0_ k_ ∨ P0_1_ k_ ∨ P0_3_ k_) ∨ w.heap.size ≤ k_) ∧ some k_ ≠ (.slice Ao28 t356.length co28 : Value).ownBlock ∧ k_ ≠ gb353 ∧ k_ ≠ gb354 ∧ k_ ≠ gb359) ho0 (fun k_ hk_ => ⟨Or.elim hk_ (fun hs_ => Or.elim hs_ (fun hs_ => hs_.1) (fun hs_ => hs_.1)) (fun hn_ => (.inr (Nat.le_trans (below_size beT_) hn_))), Or.elim hk_ (fun hs_ => Or.elim hs_ (fun hs_ => hs_.2.1) (fun hs_ => hs_.2.1)) (fun hn_ => (Kd.fresh' (Kd.R_lt (rT_ HO_10.out)) k_ hn_)), Or.elim hk_ (fun hs_ => Or.elim hs_ (fun hs_ => hs_.2.2.1) (fun hs_ => hs_.2.2.1)) (fun hn_ => (Kd.freshB (g := gb353) (o := .cells #[.slice A0_0 l0_0.length c0_0, .slice A0_1 l0_1.length c0_1, .int .u64 a0_2, .slice A0_3 l0_3.length c0_3] 29 (0, 0)) (bT_ BK353.out) k_ hn_)), Or.elim hk_ (fun hs_ => Or.elim hs_ (fun hs_ => hs_.2.2.2.1) (fun hs_ => hs_.2.2.2.1)) (fun hn_ => (Kd.freshB (g := gb354) (o := .cells #[.slice none 0 0, .slice none 0 0, .int .u64 x355002_1, .slice none 0 0] 29 (0, 0)) (bT_ BK354.out) k_ hn_)), Or.elim hk_ (fun hs_ => Or.elim hs_ (fun hs_ => hs_.2.2.2.2) (fun hs_ => hs_.2.2.2.2)) (fun hn_ => (Kd.freshB (g := gb359) (o := .cells #[.slice Ao56 x360000_1.length co56, .slice Ao57 x360001_1.length co57] 25 (0, 0)) (bT_ BK359.out) k_ hn_))⟩)) (below_size beT_)); have HO378 := Aside0.mk (Kd.V_lower (Kd.V_mono (ok' := fun k_ => ((P0_0_ k_ ∨ P0_1_ k_ ∨ P0_3_ k_) ∨ w.heap.size ≤ k_) ∧ some k_ ≠ (.slice Ao28 t356.length co28 : Value).ownBlock ∧ k_ ≠ gb353 ∧ k_ ≠ gb354 ∧ k_ ≠ gb359) ho1 (fun k_ hk_ => ⟨Or.elim hk_ (fun hs_ => Or.elim hs_ (fun hs_ => hs_.1) (fun hs_ => hs_.1)) (fun hn_ => (.inr (Nat.le_trans (below_size beT_) hn_))), Or.elim hk_ (fun hs_ => Or.elim hs_ (fun hs_ => hs_.2.1) (fun hs_ => hs_.2.1)) (fun hn_ => (Kd.fresh' (Kd.R_lt (rT_ HO_10.out)) k_ hn_)), Or.elim hk_ (fun hs_ => Or.elim hs_ (fun hs_ => hs_.2.2.1) (fun hs_ => hs_.2.2.1)) (fun hn_ => (Kd.freshB (g := gb353) (o := .cells #[.slice A0_0 l0_0.length c0_0, .slice A0_1 l0_1.length c0_1, .int .u64 a0_2, .slice A0_3 l0_3.length c0_3] 29 (0, 0)) (bT_ BK353.out) k_ hn_)), Or.elim hk_ (fun hs_ => Or.elim hs_ (fun hs_ => hs_.2.2.2.1) (fun hs_ => hs_.2.2.2.1)) (fun hn_ => (Kd.freshB (g := gb354) (o := .cells #[.slice none 0 0, .slice none 0 0, .int .u64 x355002_1, .slice none 0 0] 29 (0, 0)) (bT_ BK354.out) k_ hn_)), Or.elim hk_ (fun hs_ => Or.elim hs_ (fun hs_ => hs_.2.2.2.2) (fun hs_ => hs_.2.2.2.2)) (fun hn_ => (Kd.freshB (g := gb359) (o := .cells #[.slice Ao56 x360000_1.length co56, .slice Ao57 x360001_1.length co57] 25 (0, 0)) (bT_ BK359.out) k_ hn_))⟩)) (below_size beT_)); replace HO_10 := rB_ HO_10.out hb; replace HO_354000 := vB_ HO_354000.out hb; replace HO_354001 := vB_ HO_354001.out hb; replace HO_354003 := vB_ HO_354003.out hb; replace HO_360000 := vB_ HO_360000.out hb; replace HO_360001 := vB_ HO_360001.out hb; replace BK353 := kB_ BK353 hb; replace BK354 := kB_ BK354 hb; replace BK359 := kB_ BK359 hb; replace HB := hB_ hb; (try clear hb); (try clear hb2); (try clear hk); (try clear hi); (try clear ho0); (try clear ho1)) | ((with_reducible refine gate_dst (N := 13) rfl ?_); refine bE_ 13 #[.slice none 0 0, .slice none 0 0] 25 ?_; intro gb380 hg w59 hbox hb; have BK380 := Aside0.mk hbox; have GW380 := geT_ w.heap.size hg; have GE380 := geT_ w.heap.size hg; have NB353_380 := nlT_ BK353.out hg; have NB380_353 := ngT_ BK353.out hg; have NB354_380 := nlT_ BK354.out hg; have NB380_354 := ngT_ BK354.out hg; have NB359_380 := nlT_ BK359.out hg; have NB380_359 := ngT_ BK359.out hg; replace HO_10 := rB_ HO_10.out hb; replace HO_354000 := vE_ HO_354000.out hg hb; replace HO_354001 := vE_ HO_354001.out hg hb; replace HO_354003 := vE_ HO_354003.out hg hb; replace HO_360000 := vE_ HO_360000.out hg hb; replace HO_360001 := vE_ HO_360001.out hg hb; replace HO375 := vE_ HO375.out hg hb; replace HO378 := vE_ HO378.out hg hb; replace BK353 := kB_ BK353 hb; replace BK354 := kB_ BK354 hb; replace BK359 := kB_ BK359 hb; replace HB := hB_ hb; clear hb hbox hg; obtain ⟨Ao60, co60, eo60⟩ := Kd.V_slice HO375.out; subst eo60; have hnb61 := NB380_353.out; have hnc61 := NB353_380.out; have hnb62 := NB380_354.out; have hnc62 := NB354_380.out; have hnb63 := NB380_359.out; have hnc63 := NB359_380.out; obtain ⟨hcz64_0, hcz64_1, hfz64_0, hfz64_1⟩ := b2_ BK380.out; obtain ⟨Ao65, co65, eo65⟩ := Kd.V_slice HO378.out; subst eo65; obtain ⟨hcz66_0, hcz66_1, hfz66_0, hfz66_1⟩ := b2_ BK359.out))
          go_roundg k1
          case measure => have := HK1.out; omega
          case rel => exact ⟨(IntKind.u64.wrap (x12_1 + 1)), (x355002_1), (t373), (t376), (.slice Ao60 t373.length co60), (.slice Ao65 t376.length co65), r1_, H', ⟨by have := HK1.out; omega⟩, ⟨by (with_reducible repeat (first | apply Kd.R_alloc | apply Kd.R_drewN | apply Kd.R_drew)); exact Kd.R_mono (Kd.R_far (p := ⟨gb359, 1, none⟩) (Kd.R_far (p := ⟨gb359, 0, none⟩) (Kd.R_far (p := ⟨gb380, 1, none⟩) (Kd.R_far (p := ⟨gb380, 0, none⟩) (Kd.R_types (Kd.R_types HO_10.out BK380.out (by decide)) BK359.out (by decide)) (fun _ hk => hk.1.2) (.slice Ao60 t373.length co60)) (fun _ hk => hk.1.2) (.slice Ao65 t376.length co65)) (fun _ hk => hk.2) (.slice Ao60 t373.length co60)) (fun _ hk => hk.2) (.slice Ao65 t376.length co65)) (fun _ hk => hk.1.1)⟩, ⟨vF_ HO_354000.out⟩, ⟨vF_ HO_354001.out⟩, ⟨vF_ HO_354003.out⟩, ⟨vF_ HO375.out⟩, ⟨vF_ HO378.out⟩, ⟨bfT_ BK353.out⟩, ⟨bfT_ BK354.out⟩, ⟨kP_ BK359.out⟩, ⟨beT_⟩⟩
        rw [if_neg c47] at H
        have c47b0 : (t379 == 0) = false := beq_eq_false_iff_ne.mpr c47
        have c47b1 : (t379 != 0) = true := bne_iff_ne.mpr c47
        simp only [Option.some.injEq, Prod.mk.injEq] at H
        obtain ⟨rfl, rfl, rfl, rfl, rfl⟩ := H
        have hnb67 := NB353_354.out
        have hnc67 := NB354_353.out
        have hnb68 := NB353_359.out
        have hnc68 := NB359_353.out
        obtain ⟨hcz69_0, hcz69_1, hcz69_2, hcz69_3, hfz69_0, hfz69_1, hfz69_2, hfz69_3⟩ := b4_ BK353.out
        go_wp2_with (first | ((with_reducible refine gate_callee (f := 43) rfl ?_); refine gL_ (some 42) Try.func43 #[.agg #[.slice A0_0 l0_0.length c0_0, .slice A0_1 l0_1.length c0_1, .int .u64 a0_2, .slice A0_3 l0_3.length c0_3], .int .u32 ((((a1 + a2) % 4294967296) - 1) % 4294967296)] ?_; (with_reducible refine (ferryref04_hostPage.calls _ _ l0_0 _ _ l0_1 a0_2 _ _ l0_3 ((((a1 + a2) % 4294967296) - 1) % 4294967296) t361 _ ?side1 ?side2 ?side3 ?side4 ?side5 ?side6 A36.out).mono ?_); (case side1 => exact cT_ (Kd.V_reads' HO_354000.out).2.2); (case side2 => exact (Kd.V_reads' HO_354000.out).2.1); (case side3 => exact cT_ (Kd.V_reads' HO_354001.out).2.2); (case side4 => exact (Kd.V_reads' HO_354001.out).2.1); (case side5 => exact cT_ (Kd.V_reads' HO_354003.out).2.2); (case side6 => exact (Kd.V_reads' HO_354003.out).2.1); rintro e w70 ⟨rfl, hb⟩; refine ⟨_, rfl, ?_⟩; replace HO_10 := rB_ HO_10.out hb; replace HO_354000 := vB_ HO_354000.out hb; replace HO_354001 := vB_ HO_354001.out hb; replace HO_354003 := vB_ HO_354003.out hb; replace HO_360000 := vB_ HO_360000.out hb; replace HO_360001 := vB_ HO_360001.out hb; replace BK353 := kB_ BK353 hb; replace BK354 := kB_ BK354 hb; replace BK359 := kB_ BK359 hb; replace HB := hB_ hb; (try clear hb); (try clear hb2); (try clear hk); (try clear hi); obtain ⟨hcz71_0, hcz71_1, hcz71_2, hcz71_3, hfz71_0, hfz71_1, hfz71_2, hfz71_3⟩ := b4_ BK353.out) | ((with_reducible refine gate_callee (f := 30) rfl ?_); refine gL_ (some 48) Try.func30 #[.agg #[.slice A0_0 l0_0.length c0_0, .slice A0_1 l0_1.length c0_1, .int .u64 a0_2, .slice A0_3 l0_3.length c0_3], .int .u64 x12_1] ?_; (with_reducible refine (ferryref04_used.calls k1 _ _ l0_0 _ _ l0_1 a0_2 _ _ l0_3 x12_1 false _ ?side1 ?side2 ?side3 ?side4 ?side5 ?side6 A38.out).mono ?_); (case side1 => exact cT_ (Kd.V_reads' HO_354000.out).2.2); (case side2 => exact (Kd.V_reads' HO_354000.out).2.1); (case side3 => exact cT_ (Kd.V_reads' HO_354001.out).2.2); (case side4 => exact (Kd.V_reads' HO_354001.out).2.1); (case side5 => exact cT_ (Kd.V_reads' HO_354003.out).2.2); (case side6 => exact (Kd.V_reads' HO_354003.out).2.1); rintro e w72 ⟨rfl, hb⟩; refine ⟨_, rfl, ?_⟩; replace HO_10 := rB_ HO_10.out hb; replace HO_354000 := vB_ HO_354000.out hb; replace HO_354001 := vB_ HO_354001.out hb; replace HO_354003 := vB_ HO_354003.out hb; replace HO_360000 := vB_ HO_360000.out hb; replace HO_360001 := vB_ HO_360001.out hb; replace BK353 := kB_ BK353 hb; replace BK354 := kB_ BK354 hb; replace BK359 := kB_ BK359 hb; replace HB := hB_ hb; (try clear hb); (try clear hb2); (try clear hk); (try clear hi); have hnb73 := NB359_354.out; have hnc73 := NB354_359.out; obtain ⟨hcz74_0, hcz74_1, hfz74_0, hfz74_1⟩ := b2_ BK359.out; obtain ⟨Ao75, co75, eo75⟩ := Kd.V_slice HO_360000.out; subst eo75; obtain ⟨Ao76, co76, eo76⟩ := Kd.V_slice HO_360001.out; subst eo76) | ((with_reducible refine gate_callee (f := 44) rfl ?_); refine gL_ (some 52) Try.func44 #[.agg #[.slice Ao75 x360000_1.length co75, .slice Ao76 x360001_1.length co76], .int .u64 x12_1, .int .u64 1, .int .i64 3] ?_; (with_reducible refine (ferryref03_Map.calls k1 (fun k_ => (((P0_0_ k_ ∨ P0_1_ k_ ∨ P0_3_ k_) ∨ w.heap.size ≤ k_) ∧ (some k_ ≠ (.slice Ao28 t356.length co28 : Value).ownBlock ∧ (k_ ≠ gb353 ∧ (k_ ≠ gb354 ∧ k_ ≠ gb359))))) _ _ x360000_1 (fun k_ => (((P0_0_ k_ ∨ P0_1_ k_ ∨ P0_3_ k_) ∨ w.heap.size ≤ k_) ∧ (some k_ ≠ (.slice Ao28 t356.length co28 : Value).ownBlock ∧ (k_ ≠ gb353 ∧ (k_ ≠ gb354 ∧ k_ ≠ gb359))))) _ _ x360001_1 x12_1 1 3 t373 t376 t379 _ ?side1 ?side2 A46.out).mono ?_); (case side1 => exact HO_360000.out); (case side2 => exact HO_360001.out); rintro e w77 ⟨v374, v377, rfl, ho0, ho1, hb⟩; refine ⟨_, rfl, ?_⟩; have HO375 := Aside0.mk (Kd.V_lower (Kd.V_mono (ok' := fun k_ => ((P0_0_ k_ ∨ P0_1_ k_ ∨ P0_3_ k_) ∨ w.heap.size ≤ k_) ∧ some k_ ≠ (.slice Ao28 t356.length co28 : Value).ownBlock ∧ k_ ≠ gb353 ∧ k_ ≠ gb354 ∧ k_ ≠ gb359) ho0 (fun k_ hk_ => ⟨Or.elim hk_ (fun hs_ => Or.elim hs_ (fun hs_ => hs_.1) (fun hs_ => hs_.1)) (fun hn_ => (.inr (Nat.le_trans (below_size beT_) hn_))), Or.elim hk_ (fun hs_ => Or.elim hs_ (fun hs_ => hs_.2.1) (fun hs_ => hs_.2.1)) (fun hn_ => (Kd.fresh' (Kd.R_lt (rT_ HO_10.out)) k_ hn_)), Or.elim hk_ (fun hs_ => Or.elim hs_ (fun hs_ => hs_.2.2.1) (fun hs_ => hs_.2.2.1)) (fun hn_ => (Kd.freshB (g := gb353) (o := .cells #[.slice A0_0 l0_0.length c0_0, .slice A0_1 l0_1.length c0_1, .int .u64 a0_2, .slice A0_3 l0_3.length c0_3] 29 (0, 0)) (bT_ BK353.out) k_ hn_)), Or.elim hk_ (fun hs_ => Or.elim hs_ (fun hs_ => hs_.2.2.2.1) (fun hs_ => hs_.2.2.2.1)) (fun hn_ => (Kd.freshB (g := gb354) (o := .cells #[.slice none 0 0, .slice none 0 0, .int .u64 x355002_1, .slice none 0 0] 29 (0, 0)) (bT_ BK354.out) k_ hn_)), Or.elim hk_ (fun hs_ => Or.elim hs_ (fun hs_ => hs_.2.2.2.2) (fun hs_ => hs_.2.2.2.2)) (fun hn_ => (Kd.freshB (g := gb359) (o := .cells #[.slice Ao75 x360000_1.length co75, .slice Ao76 x360001_1.length co76] 25 (0, 0)) (bT_ BK359.out) k_ hn_))⟩)) (below_size beT_)); have HO378 := Aside0.mk (Kd.V_lower (Kd.V_mono (ok' := fun k_ => ((P0_0_ k_ ∨ P0_1_ k_ ∨ P0_3_ k_) ∨ w.heap.size ≤ k_) ∧ some k_ ≠ (.slice Ao28 t356.length co28 : Value).ownBlock ∧ k_ ≠ gb353 ∧ k_ ≠ gb354 ∧ k_ ≠ gb359) ho1 (fun k_ hk_ => ⟨Or.elim hk_ (fun hs_ => Or.elim hs_ (fun hs_ => hs_.1) (fun hs_ => hs_.1)) (fun hn_ => (.inr (Nat.le_trans (below_size beT_) hn_))), Or.elim hk_ (fun hs_ => Or.elim hs_ (fun hs_ => hs_.2.1) (fun hs_ => hs_.2.1)) (fun hn_ => (Kd.fresh' (Kd.R_lt (rT_ HO_10.out)) k_ hn_)), Or.elim hk_ (fun hs_ => Or.elim hs_ (fun hs_ => hs_.2.2.1) (fun hs_ => hs_.2.2.1)) (fun hn_ => (Kd.freshB (g := gb353) (o := .cells #[.slice A0_0 l0_0.length c0_0, .slice A0_1 l0_1.length c0_1, .int .u64 a0_2, .slice A0_3 l0_3.length c0_3] 29 (0, 0)) (bT_ BK353.out) k_ hn_)), Or.elim hk_ (fun hs_ => Or.elim hs_ (fun hs_ => hs_.2.2.2.1) (fun hs_ => hs_.2.2.2.1)) (fun hn_ => (Kd.freshB (g := gb354) (o := .cells #[.slice none 0 0, .slice none 0 0, .int .u64 x355002_1, .slice none 0 0] 29 (0, 0)) (bT_ BK354.out) k_ hn_)), Or.elim hk_ (fun hs_ => Or.elim hs_ (fun hs_ => hs_.2.2.2.2) (fun hs_ => hs_.2.2.2.2)) (fun hn_ => (Kd.freshB (g := gb359) (o := .cells #[.slice Ao75 x360000_1.length co75, .slice Ao76 x360001_1.length co76] 25 (0, 0)) (bT_ BK359.out) k_ hn_))⟩)) (below_size beT_)); replace HO_10 := rB_ HO_10.out hb; replace HO_354000 := vB_ HO_354000.out hb; replace HO_354001 := vB_ HO_354001.out hb; replace HO_354003 := vB_ HO_354003.out hb; replace HO_360000 := vB_ HO_360000.out hb; replace HO_360001 := vB_ HO_360001.out hb; replace BK353 := kB_ BK353 hb; replace BK354 := kB_ BK354 hb; replace BK359 := kB_ BK359 hb; replace HB := hB_ hb; (try clear hb); (try clear hb2); (try clear hk); (try clear hi); (try clear ho0); (try clear ho1)) | ((with_reducible refine gate_dst (N := 13) rfl ?_); refine bE_ 13 #[.slice none 0 0, .slice none 0 0] 25 ?_; intro gb380 hg w78 hbox hb; have BK380 := Aside0.mk hbox; have GW380 := geT_ w.heap.size hg; have GE380 := geT_ w.heap.size hg; have NB353_380 := nlT_ BK353.out hg; have NB380_353 := ngT_ BK353.out hg; have NB354_380 := nlT_ BK354.out hg; have NB380_354 := ngT_ BK354.out hg; have NB359_380 := nlT_ BK359.out hg; have NB380_359 := ngT_ BK359.out hg; replace HO_10 := rB_ HO_10.out hb; replace HO_354000 := vE_ HO_354000.out hg hb; replace HO_354001 := vE_ HO_354001.out hg hb; replace HO_354003 := vE_ HO_354003.out hg hb; replace HO_360000 := vE_ HO_360000.out hg hb; replace HO_360001 := vE_ HO_360001.out hg hb; replace HO375 := vE_ HO375.out hg hb; replace HO378 := vE_ HO378.out hg hb; replace BK353 := kB_ BK353 hb; replace BK354 := kB_ BK354 hb; replace BK359 := kB_ BK359 hb; replace HB := hB_ hb; clear hb hbox hg; obtain ⟨Ao79, co79, eo79⟩ := Kd.V_slice HO375.out; subst eo79; have hnb80 := NB380_353.out; have hnc80 := NB353_380.out; have hnb81 := NB380_354.out; have hnc81 := NB354_380.out; have hnb82 := NB380_359.out; have hnc82 := NB359_380.out; obtain ⟨hcz83_0, hcz83_1, hfz83_0, hfz83_1⟩ := b2_ BK380.out; obtain ⟨Ao84, co84, eo84⟩ := Kd.V_slice HO378.out; subst eo84; obtain ⟨hcz85_0, hcz85_1, hcz85_2, hcz85_3, hfz85_0, hfz85_1, hfz85_2, hfz85_3⟩ := b4_ BK353.out; obtain ⟨hcz86_0, hcz86_1, hcz86_2, hcz86_3, hfz86_0, hfz86_1, hfz86_2, hfz86_3⟩ := b4_ BK354.out))
        refine bodyPost_ret (results_ct rfl _ _ gb354 29 #[.slice A0_0 l0_0.length c0_0, .slice A0_1 l0_1.length c0_1, .int .u64 a0_2, .slice A0_3 l0_3.length c0_3] (0, 0) _ rfl (kP_ BK354.out) Try.underlying29 rfl (by kernel_rfl)) rfl ?_
        exact ⟨_, _, _, r3_, (vF_ HO_354000.out), (vF_ HO_354001.out), (vF_ HO_354003.out), beT_⟩
      rw [if_neg c37] at H
      have c37b0 : decide (x12_1 ≤ t361) = false := decide_eq_false c37
      clear c37
      replace H := Option.bind_eq_some_iff.mp H
      obtain ⟨t362, A870, H⟩ := H
      have A87 := Aside0.mk A870
      clear A870
      replace H := Option.bind_eq_some_iff.mp H
      obtain ⟨⟨t363, t366⟩, A880, H⟩ := H
      have A88 := Aside0.mk A880
      clear A880
      replace H := Option.bind_eq_some_iff.mp H
      obtain ⟨t369, A890, H⟩ := H
      have A89 := Aside0.mk A890
      clear A890
      simp only [Option.some.injEq, Prod.mk.injEq] at H
      obtain ⟨rfl, rfl, rfl, rfl, rfl⟩ := H
      have hnb90 := NB353_354.out
      have hnc90 := NB354_353.out
      have hnb91 := NB353_359.out
      have hnc91 := NB359_353.out
      obtain ⟨hcz92_0, hcz92_1, hcz92_2, hcz92_3, hfz92_0, hfz92_1, hfz92_2, hfz92_3⟩ := b4_ BK353.out
      try go_wp2_with (first | ((with_reducible refine gate_callee (f := 43) rfl ?_); refine gL_ (some 42) Try.func43 #[.agg #[.slice A0_0 l0_0.length c0_0, .slice A0_1 l0_1.length c0_1, .int .u64 a0_2, .slice A0_3 l0_3.length c0_3], .int .u32 ((((a1 + a2) % 4294967296) - 1) % 4294967296)] ?_; (with_reducible refine (ferryref04_hostPage.calls _ _ l0_0 _ _ l0_1 a0_2 _ _ l0_3 ((((a1 + a2) % 4294967296) - 1) % 4294967296) t361 _ ?side1 ?side2 ?side3 ?side4 ?side5 ?side6 A36.out).mono ?_); (case side1 => exact cT_ (Kd.V_reads' HO_354000.out).2.2); (case side2 => exact (Kd.V_reads' HO_354000.out).2.1); (case side3 => exact cT_ (Kd.V_reads' HO_354001.out).2.2); (case side4 => exact (Kd.V_reads' HO_354001.out).2.1); (case side5 => exact cT_ (Kd.V_reads' HO_354003.out).2.2); (case side6 => exact (Kd.V_reads' HO_354003.out).2.1); rintro e w93 ⟨rfl, hb⟩; refine ⟨_, rfl, ?_⟩; replace HO_10 := rB_ HO_10.out hb; replace HO_354000 := vB_ HO_354000.out hb; replace HO_354001 := vB_ HO_354001.out hb; replace HO_354003 := vB_ HO_354003.out hb; replace HO_360000 := vB_ HO_360000.out hb; replace HO_360001 := vB_ HO_360001.out hb; replace BK353 := kB_ BK353 hb; replace BK354 := kB_ BK354 hb; replace BK359 := kB_ BK359 hb; replace HB := hB_ hb; (try clear hb); (try clear hb2); (try clear hk); (try clear hi)))
      replace HO_10 := Aside0.mk (Kd.R_drew HO_10.out)
      replace HO_354000 := Aside0.mk (Kd.V_drew HO_354000.out)
      replace HO_354001 := Aside0.mk (Kd.V_drew HO_354001.out)
      replace HO_354003 := Aside0.mk (Kd.V_drew HO_354003.out)
      replace HO_360000 := Aside0.mk (Kd.V_drew HO_360000.out)
      replace HO_360001 := Aside0.mk (Kd.V_drew HO_360001.out)
      replace BK353 := Aside0.mk (blk_drew BK353.out)
      replace BK354 := Aside0.mk (blk_drew BK354.out)
      replace BK359 := Aside0.mk (blk_drew BK359.out)
      replace HB := Aside0.mk (below_drew1 HB.out)
      refine start_ (n := 11) (S := fun w' => w'.cell? ⟨gb359, 0, none⟩ = some (u360000) ∧ w'.cell? ⟨gb359, 1, none⟩ = some (u360001) ∧ w'.cell? ⟨gb353, 0, none⟩ = some (.slice A0_0 l0_0.length c0_0) ∧ w'.cell? ⟨gb353, 1, none⟩ = some (.slice A0_1 l0_1.length c0_1) ∧ w'.cell? ⟨gb353, 2, none⟩ = some (.int .u64 a0_2) ∧ w'.cell? ⟨gb353, 3, none⟩ = some (.slice A0_3 l0_3.length c0_3)) (ds := [10]) (mb_ 11 0) (by kernel_rfl) rfl rfl ⟨(blk_cell BK359.out 0).trans rfl, (blk_cell BK359.out 1).trans rfl, (blk_cell BK353.out 0).trans rfl, (blk_cell BK353.out 1).trans rfl, (blk_cell BK353.out 2).trans rfl, (blk_cell BK353.out 3).trans rfl⟩ (fun hHeld => ?_); refine with_tabW ferryref04_Map.tab15 ferryref04_Map.bits15 (fun HT_ HW_ => ?_)
      generalize w93.drew = w94 at HO_10 HO_354000 HO_354001 HO_354003 HO_360000 HO_360001 BK353 BK354 BK359 HB hHeld ⊢
      refine pS_ 2 61 (mb_ 11 4) ?_
      refine pS_ 3 62 (mb_ 11 12) ?_
      refine pS_ 5 64 (mb_ 11 44) ?_
      refine pS_ 6 65 (mb_ 11 108) ?_
      refine pS_ 7 66 (mb_ 11 236) ?_
      refine t6S_ 0 59 (mb_ 11 237) ?_
      refine t6S_ 1 60 (mb_ 11 239) ?_
      refine one_ (i := 4) (N := some 63) (mb_ 11 255) rfl rfl (one_of HT_.out (by kernel_rfl)) (by decide) (fun K hK => ?_)
      refine goes_ Try.func15 (by kernel_rfl) rfl #[.agg #[.slice A0_0 l0_0.length c0_0, .slice A0_1 l0_1.length c0_1, .int .u64 a0_2, .slice A0_3 l0_3.length c0_3], .int .u32 ((a1 * 4096) % 4294967296)] (by rfl) rfl rfl aT_ ?_
      with_reducible refine (ferryref04_Place.calls _ _ l0_0 _ _ l0_1 a0_2 _ _ l0_3 ((a1 * 4096) % 4294967296) t362 _ ?side1 ?side2 ?side3 ?side4 ?side5 ?side6 A87.out).mono ?_
      (case side1 => exact cT_ (Kd.V_reads' HO_354000.out).2.2)
      (case side2 => exact (Kd.V_reads' HO_354000.out).2.1)
      (case side3 => exact cT_ (Kd.V_reads' HO_354001.out).2.2)
      (case side4 => exact (Kd.V_reads' HO_354001.out).2.1)
      (case side5 => exact cT_ (Kd.V_reads' HO_354003.out).2.2)
      (case side6 => exact (Kd.V_reads' HO_354003.out).2.1)
      rintro e w95 ⟨rfl, hb⟩
      refine ⟨_, rfl, ?_⟩
      replace HO_10 := rB_ HO_10.out hb
      replace HO_354000 := vB_ HO_354000.out hb
      replace HO_354001 := vB_ HO_354001.out hb
      replace HO_354003 := vB_ HO_354003.out hb
      replace HO_360000 := vB_ HO_360000.out hb
      replace HO_360001 := vB_ HO_360001.out hb
      replace BK353 := kB_ BK353 hb
      replace BK354 := kB_ BK354 hb
      replace BK359 := kB_ BK359 hb
      replace HB := hB_ hb
      (try clear hb)
      (try clear hb2)
      (try clear hk)
      (try clear hi)
      obtain ⟨Ao96, co96, eo96⟩ := Kd.V_slice HO_360000.out
      (first | subst eo96 | (injection eo96 with f1_ f2_ f3_; have f4_ := f1_.symm; have f5_ := f3_.symm; clear f1_ f2_ f3_; subst f4_; subst f5_))
      obtain ⟨Ao97, co97, eo97⟩ := Kd.V_slice HO_360001.out
      (first | subst eo97 | (injection eo97 with f1_ f2_ f3_; have f4_ := f1_.symm; have f5_ := f3_.symm; clear f1_ f2_ f3_; subst f4_; subst f5_))
      refine hK.out _ _ ⟨(blk_cell BK359.out 0).trans rfl, (blk_cell BK359.out 1).trans rfl, (blk_cell BK353.out 0).trans rfl, (blk_cell BK353.out 1).trans rfl, (blk_cell BK353.out 2).trans rfl, (blk_cell BK353.out 3).trans rfl⟩ (fun hHeld => ?_)
      clear hK K
      refine nS_ ?_
      refine one_ (i := 8) (N := some 67) (mb_ 11 511) rfl rfl (one_of HT_.out (by kernel_rfl)) (by decide) (fun K hK => ?_)
      refine goes_ Try.func45 (by kernel_rfl) rfl #[.agg #[.slice Ao96 x360000_1.length co96, .slice Ao97 x360001_1.length co97], .int .u64 t362, .int .u64 (IntKind.u64.wrap ((IntKind.u64.wrap (a2)) * 4096))] (by rfl) rfl rfl aT_ ?_
      with_reducible refine (ferryref03_Clear.calls k1 (fun k_ => (((P0_0_ k_ ∨ P0_1_ k_ ∨ P0_3_ k_) ∨ w.heap.size ≤ k_) ∧ (some k_ ≠ (.slice Ao28 t356.length co28 : Value).ownBlock ∧ (k_ ≠ gb353 ∧ (k_ ≠ gb354 ∧ k_ ≠ gb359))))) _ _ x360000_1 _ _ x360001_1 t362 (IntKind.u64.wrap ((IntKind.u64.wrap (a2)) * 4096)) t363 t366 _ ?side1 ?side2 ?side3 A88.out).mono ?_
      (case side1 => exact HO_360000.out)
      (case side2 => exact cT_ (Kd.V_reads' HO_360001.out).2.2)
      (case side3 => exact (Kd.V_reads' HO_360001.out).2.1)
      rintro e w98 ⟨v364, v367, rfl, ho0, ho1, hb⟩
      refine ⟨_, rfl, ?_⟩
      have HO365 := Aside0.mk (Kd.V_lower (Kd.V_mono (ok' := fun k_ => ((P0_0_ k_ ∨ P0_1_ k_ ∨ P0_3_ k_) ∨ w.heap.size ≤ k_) ∧ some k_ ≠ (v367 : Value).ownBlock ∧ some k_ ≠ (.slice Ao28 t356.length co28 : Value).ownBlock ∧ k_ ≠ gb353 ∧ k_ ≠ gb354 ∧ k_ ≠ gb359) ho0 (fun k_ hk_ => ⟨Or.elim hk_.1 (fun hs_ => hs_.1) (fun hn_ => (.inr (Nat.le_trans (below_size beT_) hn_))), hk_.2, Or.elim hk_.1 (fun hs_ => hs_.2.1) (fun hn_ => (Kd.fresh' (Kd.R_lt (rT_ HO_10.out)) k_ hn_)), Or.elim hk_.1 (fun hs_ => hs_.2.2.1) (fun hn_ => (Kd.freshB (g := gb353) (o := .cells #[.slice A0_0 l0_0.length c0_0, .slice A0_1 l0_1.length c0_1, .int .u64 a0_2, .slice A0_3 l0_3.length c0_3] 29 (0, 0)) (bT_ BK353.out) k_ hn_)), Or.elim hk_.1 (fun hs_ => hs_.2.2.2.1) (fun hn_ => (Kd.freshB (g := gb354) (o := .cells #[.slice none 0 0, .slice none 0 0, .int .u64 x355002_1, .slice none 0 0] 29 (0, 0)) (bT_ BK354.out) k_ hn_)), Or.elim hk_.1 (fun hs_ => hs_.2.2.2.2) (fun hn_ => (Kd.freshB (g := gb359) (o := .cells #[.slice Ao96 x360000_1.length co96, .slice Ao97 x360001_1.length co97] 25 (0, 0)) (bT_ BK359.out) k_ hn_))⟩)) (below_size beT_))
      have HO368 := Aside0.mk (Kd.R_lower (Kd.R_newM (M := fun k_ => (w.heap.size ≤ k_)) (Kd.R_mono (ok' := fun k_ => True) ho1 (fun _ hk_ => trivial)) (below_size beT_) (fun k_ h_ => h_)) (below_size beT_))
      replace HO_10 := rB_ HO_10.out hb
      replace HO_354000 := Aside0.mk (Kd.V_elder' (vT_ HO_354000.out) (Kd.R_base ho1) hb)
      replace HO_354001 := Aside0.mk (Kd.V_elder' (vT_ HO_354001.out) (Kd.R_base ho1) hb)
      replace HO_354003 := Aside0.mk (Kd.V_elder' (vT_ HO_354003.out) (Kd.R_base ho1) hb)
      replace HO_360000 := Aside0.mk (Kd.V_elder' (vT_ HO_360000.out) (Kd.R_base ho1) hb)
      replace HO_360001 := Aside0.mk (Kd.V_elder' (vT_ HO_360001.out) (Kd.R_base ho1) hb)
      replace BK353 := kB_ BK353 hb
      replace BK354 := kB_ BK354 hb
      replace BK359 := kB_ BK359 hb
      replace HB := hB_ hb
      (try clear hb)
      (try clear hb2)
      (try clear hk)
      (try clear hi)
      (try clear ho0)
      (try clear ho1)
      obtain ⟨Ao99, co99, eo99⟩ := Kd.V_slice HO365.out
      (first | subst eo99 | (injection eo99 with f1_ f2_ f3_; have f4_ := f1_.symm; have f5_ := f3_.symm; clear f1_ f2_ f3_; subst f4_; subst f5_))
      obtain ⟨Ao101, co101, eo101⟩ := Kd.R_slice HO368.out
      (first | subst eo101 | (injection eo101 with f1_ f2_ f3_; have f4_ := f1_.symm; have f5_ := f3_.symm; clear f1_ f2_ f3_; subst f4_; subst f5_))
      refine hK.out _ _ ⟨(blk_cell BK359.out 0).trans rfl, (blk_cell BK359.out 1).trans rfl, (blk_cell BK353.out 0).trans rfl, (blk_cell BK353.out 1).trans rfl, (blk_cell BK353.out 2).trans rfl, (blk_cell BK353.out 3).trans rfl⟩ (fun hHeld => ?_)
      clear hK K
      refine nS_ ?_
      refine pS_ 9 68 (mb_ 11 1023) ?_
      refine last_ (i := 10) (N := none) (mb_ 11 2047) rfl rfl (one_of HT_.out (by kernel_rfl)) (by decide) (fun K hK => ?_)
      have hs100 : w98.cell? ⟨gb353, 0, none⟩ = some (.slice A0_0 l0_0.length c0_0) := (blk_cell BK353.out 0).trans rfl
      have hfs100 := blk_frozen BK353.out 0
      have hns100_1 := NB354_353.out
      have hns100_2 := NB359_353.out
      have hms100_1 := NB353_354.out
      have hms100_2 := NB353_359.out
      have hs102 : w98.cell? ⟨gb353, 1, none⟩ = some (.slice A0_1 l0_1.length c0_1) := (blk_cell BK353.out 1).trans rfl
      have hfs102 := blk_frozen BK353.out 1
      have hns102_1 := NB354_353.out
      have hns102_2 := NB359_353.out
      have hms102_1 := NB353_354.out
      have hms102_2 := NB353_359.out
      refine skip_ (w1 := ?_) (by rfl) rfl ?_ ?_
      rotate_left
      · go_simp
        rfl
      refine hK.out _ _ ?_
      clear hK K
      refine done_ (done_of HT_.out (by kernel_rfl)) ?_
      try go_wp2_with (first | ((with_reducible refine gate_callee (f := 46) rfl ?_); refine gL_ (some 73) Try.func46 #[.slice Ao28 t356.length co28, .int .u32 a1, .int .u32 a2, .int .i64 a3] ?_; (with_reducible refine (ferryref04_with.calls k1 _ _ t356 a1 a2 a3 t369 _ ?side1 ?side2 A89.out).mono ?_); (case side1 => refine (Kd.R_reads' (e := 39) (base := w.heap.size) (ok := fun k_ => (w.heap.size ≤ k_)) (n := t356.length) (c := co28) ?_).2.2; exact (by (with_reducible repeat (first | apply Kd.R_alloc | apply Kd.R_drewN | apply Kd.R_drew)); exact (Kd.R_mono (Kd.R_far (p := ⟨gb353, 1, none⟩) (Kd.R_far (p := ⟨gb353, 0, none⟩) (Kd.R_types HO_10.out BK353.out (by decide)) (fun _ hk => hk.2) (.slice Ao99 t363.length co99)) (fun _ hk => hk.2) (.slice Ao101 t366.length co101)) (fun _ h_ => h_.1)))); (case side2 => exact (Kd.R_reads' HO_10.out).2.1); rintro e w103 ⟨v370, rfl, ho0, hb⟩; refine ⟨_, rfl, ?_⟩; have HO371 := Aside0.mk (Kd.R_lower (Kd.R_new' (Kd.R_newM (M := fun k_ => (w.heap.size ≤ k_)) ho0 (below_size beT_) (fun k_ h_ => h_)) (Kd.R_lt (by (with_reducible repeat (first | apply Kd.R_alloc | apply Kd.R_drewN | apply Kd.R_drew)); exact (Kd.R_mono (Kd.R_far (p := ⟨gb353, 1, none⟩) (Kd.R_far (p := ⟨gb353, 0, none⟩) (Kd.R_types HO_10.out BK353.out (by decide)) (fun _ hk => hk.2) (.slice Ao99 t363.length co99)) (fun _ hk => hk.2) (.slice Ao101 t366.length co101)) (fun _ h_ => h_.1))))) (below_size beT_)); replace HO_10 := Aside0.mk (Kd.R_elder' (by (with_reducible repeat (first | apply Kd.R_alloc | apply Kd.R_drewN | apply Kd.R_drew)); exact (Kd.R_mono (Kd.R_far (p := ⟨gb353, 1, none⟩) (Kd.R_far (p := ⟨gb353, 0, none⟩) (Kd.R_types HO_10.out BK353.out (by decide)) (fun _ hk => hk.2) (.slice Ao99 t363.length co99)) (fun _ hk => hk.2) (.slice Ao101 t366.length co101)) (fun _ h_ => h_.1))) (Kd.R_base ho0) hb); replace HO_354000 := Aside0.mk (Kd.V_elder' (by (with_reducible repeat (first | apply Kd.V_alloc | apply Kd.V_drewN | apply Kd.V_drew)); exact (Kd.V_mono (Kd.V_far (p := ⟨gb353, 1, none⟩) (Kd.V_far (p := ⟨gb353, 0, none⟩) (Kd.V_mono HO_354000.out (fun k_ hk => (⟨hk, by first | exact hk.1.2.2.1 | omega | grind⟩ : _ ∧ k_ ≠ gb353))) (fun _ hk => hk.2) (.slice Ao99 t363.length co99)) (fun _ hk => hk.2) (.slice Ao101 t366.length co101)) (fun _ h_ => h_.1))) (Kd.R_base ho0) hb); replace HO_354001 := Aside0.mk (Kd.V_elder' (by (with_reducible repeat (first | apply Kd.V_alloc | apply Kd.V_drewN | apply Kd.V_drew)); exact (Kd.V_mono (Kd.V_far (p := ⟨gb353, 1, none⟩) (Kd.V_far (p := ⟨gb353, 0, none⟩) (Kd.V_mono HO_354001.out (fun k_ hk => (⟨hk, by first | exact hk.1.2.2.1 | omega | grind⟩ : _ ∧ k_ ≠ gb353))) (fun _ hk => hk.2) (.slice Ao99 t363.length co99)) (fun _ hk => hk.2) (.slice Ao101 t366.length co101)) (fun _ h_ => h_.1))) (Kd.R_base ho0) hb); replace HO_354003 := Aside0.mk (Kd.V_elder' (by (with_reducible repeat (first | apply Kd.V_alloc | apply Kd.V_drewN | apply Kd.V_drew)); exact (Kd.V_mono (Kd.V_far (p := ⟨gb353, 1, none⟩) (Kd.V_far (p := ⟨gb353, 0, none⟩) (Kd.V_mono HO_354003.out (fun k_ hk => (⟨hk, by first | exact hk.1.2.2.1 | omega | grind⟩ : _ ∧ k_ ≠ gb353))) (fun _ hk => hk.2) (.slice Ao99 t363.length co99)) (fun _ hk => hk.2) (.slice Ao101 t366.length co101)) (fun _ h_ => h_.1))) (Kd.R_base ho0) hb); replace HO_360000 := Aside0.mk (Kd.V_elder' (by (with_reducible repeat (first | apply Kd.V_alloc | apply Kd.V_drewN | apply Kd.V_drew)); exact (Kd.V_mono (Kd.V_far (p := ⟨gb353, 1, none⟩) (Kd.V_far (p := ⟨gb353, 0, none⟩) (Kd.V_mono HO_360000.out (fun k_ hk => (⟨hk, by first | exact hk.1.2.2.1 | omega | grind⟩ : _ ∧ k_ ≠ gb353))) (fun _ hk => hk.2) (.slice Ao99 t363.length co99)) (fun _ hk => hk.2) (.slice Ao101 t366.length co101)) (fun _ h_ => h_.1))) (Kd.R_base ho0) hb); replace HO_360001 := Aside0.mk (Kd.V_elder' (by (with_reducible repeat (first | apply Kd.V_alloc | apply Kd.V_drewN | apply Kd.V_drew)); exact (Kd.V_mono (Kd.V_far (p := ⟨gb353, 1, none⟩) (Kd.V_far (p := ⟨gb353, 0, none⟩) (Kd.V_mono HO_360001.out (fun k_ hk => (⟨hk, by first | exact hk.1.2.2.1 | omega | grind⟩ : _ ∧ k_ ≠ gb353))) (fun _ hk => hk.2) (.slice Ao99 t363.length co99)) (fun _ hk => hk.2) (.slice Ao101 t366.length co101)) (fun _ h_ => h_.1))) (Kd.R_base ho0) hb); replace HO365 := Aside0.mk (Kd.V_elder' (by (with_reducible repeat (first | apply Kd.V_alloc | apply Kd.V_drewN | apply Kd.V_drew)); exact (Kd.V_mono (Kd.V_far (p := ⟨gb353, 1, none⟩) (Kd.V_far (p := ⟨gb353, 0, none⟩) (Kd.V_mono HO365.out (fun k_ hk => (⟨hk, by first | exact hk.2.2.2.1 | omega | grind⟩ : _ ∧ k_ ≠ gb353))) (fun _ hk => hk.2) (.slice Ao99 t363.length co99)) (fun _ hk => hk.2) (.slice Ao101 t366.length co101)) (fun _ h_ => h_.1))) (Kd.R_base ho0) hb); replace HO368 := Aside0.mk (Kd.R_below (by (with_reducible repeat (first | apply Kd.R_alloc | apply Kd.R_drewN | apply Kd.R_drew)); exact (Kd.R_mono (Kd.R_far (p := ⟨gb353, 1, none⟩) (Kd.R_far (p := ⟨gb353, 0, none⟩) (Kd.R_types HO368.out BK353.out (by decide)) (fun _ hk => hk.2) (.slice Ao99 t363.length co99)) (fun _ hk => hk.2) (.slice Ao101 t366.length co101)) (fun _ h_ => h_.1))) hb); replace BK353 := Aside0.mk (blk_below (g := gb353) (o := .cells #[.slice Ao99 t363.length co99, .slice Ao101 t366.length co101, .int .u64 a0_2, .slice A0_3 l0_3.length c0_3] 29 (0, 0)) (kP_ BK353.out) hb); replace BK354 := kB_ BK354 hb; replace BK359 := kB_ BK359 hb; replace HB := hB_ hb; (try clear hb); (try clear hb2); (try clear hk); (try clear hi); (try clear ho0); obtain ⟨Ao104, co104, eo104⟩ := Kd.R_slice HO371.out; subst eo104; obtain ⟨hcz105_0, hcz105_1, hcz105_2, hcz105_3, hfz105_0, hfz105_1, hfz105_2, hfz105_3⟩ := b4_ BK353.out; have hnb106 := NB354_359.out; have hnc106 := NB359_354.out; obtain ⟨hcz107_0, hcz107_1, hcz107_2, hcz107_3, hfz107_0, hfz107_1, hfz107_2, hfz107_3⟩ := b4_ BK354.out))
      refine bodyPost_ret (results_ct rfl _ _ gb354 29 #[.slice Ao99 t363.length co99, .slice Ao101 t366.length co101, .int .u64 a0_2, .slice Ao104 t369.length co104] (0, 0) _ rfl (kP_ BK354.out) Try.underlying29 rfl (by kernel_rfl)) rfl ?_
      exact ⟨_, _, _, r3_, (vF_ HO365.out), Kd.V_mono (Kd.R_V (by (with_reducible repeat (first | apply Kd.R_alloc | apply Kd.R_drewN | apply Kd.R_drew)); exact Kd.R_far (p := ⟨gb354, 3, none⟩) (Kd.R_far (p := ⟨gb354, 2, none⟩) (Kd.R_far (p := ⟨gb354, 1, none⟩) (Kd.R_far (p := ⟨gb354, 0, none⟩) (Kd.R_far (p := ⟨gb353, 3, none⟩) (Kd.R_types (Kd.R_types HO368.out BK353.out (by decide)) BK354.out (by decide)) (fun _ hk => hk.1.2) (.slice Ao104 t369.length co104)) (fun _ hk => hk.2) (.slice Ao99 t363.length co99)) (fun _ hk => hk.2) (.slice Ao101 t366.length co101)) (fun _ hk => hk.2) (.int .u64 a0_2)) (fun _ hk => hk.2) (.slice Ao104 t369.length co104))) (fun k_ hk => by exact .inr (by first | exact hk.1.1.1 | exact hk.1.1)), Kd.V_mono (Kd.R_V (by (with_reducible repeat (first | apply Kd.R_alloc | apply Kd.R_drewN | apply Kd.R_drew)); exact Kd.R_far (p := ⟨gb354, 3, none⟩) (Kd.R_far (p := ⟨gb354, 2, none⟩) (Kd.R_far (p := ⟨gb354, 1, none⟩) (Kd.R_far (p := ⟨gb354, 0, none⟩) (Kd.R_far (p := ⟨gb353, 3, none⟩) (Kd.R_types (Kd.R_types HO371.out BK353.out (by decide)) BK354.out (by decide)) (fun _ hk => hk.1.2) (.slice Ao104 t369.length co104)) (fun _ hk => hk.2) (.slice Ao99 t363.length co99)) (fun _ hk => hk.2) (.slice Ao101 t366.length co101)) (fun _ hk => hk.2) (.int .u64 a0_2)) (fun _ hk => hk.2) (.slice Ao104 t369.length co104))) (fun k_ hk => by exact .inr (by first | exact hk.1.1.1.1 | exact hk.1.1.1)), beT_⟩

end Go.Proofs.Ytjhfglpgpicmiaa.F
end
