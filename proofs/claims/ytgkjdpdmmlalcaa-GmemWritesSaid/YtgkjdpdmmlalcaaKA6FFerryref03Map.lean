import Derived.Test.YtgkjdpdmmlalcaaKZF0
import Derived.Test.YtgkjdpdmmlalcaaKA0
import Derived.Test.YtgkjdpdmmlalcaaKA5
section
namespace Go.Proofs.Ytgkjdpdmmlalcaa.F
open Go.RowKit Go.Proofs.YtgkjdpdmmlalcaaW.PrintWords Go.Proofs.YtgkjdpdmmlalcaaW.PrintLast Go.Proofs.YtgkjdpdmmlalcaaW.PrintMore
attribute [local go_sem] max2_int min2_int max_two min_two max_three min_three max_four min_four
attribute [local go_sem] cell_twice
set_option linter.unusedVariables false
set_option linter.unusedSimpArgs false

mutual
def ferryref03_Map.l0 : Nat → Int → Int → Int → Int → List (S83) → List (S88) → Option ((List (S83)) × (List (S88)) × Int)
  | 0, _, _, _, _, _, _ => none
  | k + 1, x1, x2, x3, x11, x234000, x234001 => if x11 < (x234000.length : Int) then (if 0 ≤ x11 then (if ((rd_T83 x234000 x11).f0) ≥ x1 then (if (IntKind.u64.wrap (((rd_T83 x234000 x11).f0) - x1)) < x2 then (some (x234000, x234001, 17)) else (ferryref03_Map.l0 k x1 x2 x3 (wrap64 (x11 + 1)) x234000 x234001)) else (ferryref03_Map.l0 k x1 x2 x3 (wrap64 (x11 + 1)) x234000 x234001)) else (none)) else (if x2 > (IntKind.u64.wrap (wrap64 (64 - (x234000.length : Int)))) then (some (x234000, x234001, 105)) else (ferryref03_Map.l1 k x1 x2 x3 ([] : List (S83)) false 0 x234000 x234001))
def ferryref03_Map.l1 : Nat → Int → Int → Int → List (S83) → Bool → Int → List (S83) → List (S88) → Option ((List (S83)) × (List (S88)) × Int)
  | 0, _, _, _, _, _, _, _, _ => none
  | k + 1, x1, x2, x3, x10, x13, x14, x234000, x234001 => if x14 ≤ (x234000.length : Int) then (if x13 = true then (ferryref03_Map.j2 k x1 x2 x3 x10 x13 x14 false x234000 x234001) else (if x14 = (x234000.length : Int) then (ferryref03_Map.j2 k x1 x2 x3 x10 x13 x14 true x234000 x234001) else (if 0 ≤ x14 then (if x14 < (x234000.length : Int) then (ferryref03_Map.j2 k x1 x2 x3 x10 x13 x14 (decide (((rd_T83 x234000 x14).f0) > x1)) x234000 x234001) else (none)) else (none)))) else (some (x10, x234001, 0))
def ferryref03_Map.j2 : Nat → Int → Int → Int → List (S83) → Bool → Int → Bool → List (S83) → List (S88) → Option ((List (S83)) × (List (S88)) × Int)
  | 0, _, _, _, _, _, _, _, _, _ => none
  | k + 1, x1, x2, x3, x10, x13, x14, x78, x234000, x234001 => if x78 = true then (ferryref03_Map.l2 k x1 x2 x3 x10 x14 0 x234000 x234001) else (if x14 < (x234000.length : Int) then (if 0 ≤ x14 then (if x10.length < 8796093022208 then (ferryref03_Map.l1 k x1 x2 x3 (x10 ++ [(⟨(rd_T83 x234000 x14).f0, (rd_T83 x234000 x14).f1⟩ : S83)]) x13 (wrap64 (x14 + 1)) x234000 x234001) else (none)) else (none)) else (ferryref03_Map.l1 k x1 x2 x3 x10 x13 (wrap64 (x14 + 1)) x234000 x234001))
def ferryref03_Map.l2 : Nat → Int → Int → Int → List (S83) → Int → Int → List (S83) → List (S88) → Option ((List (S83)) × (List (S88)) × Int)
  | 0, _, _, _, _, _, _, _, _ => none
  | k + 1, x1, x2, x3, x10, x14, x15, x234000, x234001 => if x15 < x2 then (if x10.length < 8796093022208 then (ferryref03_Map.l2 k x1 x2 x3 (x10 ++ [(⟨IntKind.u64.wrap (x1 + x15), x3⟩ : S83)]) x14 (IntKind.u64.wrap (x15 + 1)) x234000 x234001) else (none)) else (if x14 < (x234000.length : Int) then (if 0 ≤ x14 then (if x10.length < 8796093022208 then (ferryref03_Map.l1 k x1 x2 x3 (x10 ++ [(⟨(rd_T83 x234000 x14).f0, (rd_T83 x234000 x14).f1⟩ : S83)]) true (wrap64 (x14 + 1)) x234000 x234001) else (none)) else (none)) else (ferryref03_Map.l1 k x1 x2 x3 x10 true (wrap64 (x14 + 1)) x234000 x234001))
end
def ferryref03_Map.f (k : Nat) (l0_0 : List (S83)) (l0_1 : List (S88)) (a1 : Int) (a2 : Int) (a3 : Int) : Option ((List (S83)) × (List (S88)) × Int) := (ferryref03_wrong.f a1 a2 a3).bind fun t235 => (if t235 = true then (some (l0_0, l0_1, 22)) else (ferryref03_Map.l0 k a1 a2 a3 0 l0_0 l0_1))
set_option maxHeartbeats 8000000 in
set_option maxRecDepth 100000 in
theorem ferryref03_Map.calls (k : Nat) (P0_0_ : Nat → Prop) (A0_0 : Option Addr) (c0_0 : Nat) (l0_0 : List (S83)) (P0_1_ : Nat → Prop) (A0_1 : Option Addr) (c0_1 : Nat) (l0_1 : List (S88)) (a1 : Int) (a2 : Int) (a3 : Int) (r1 : List (S83)) (r2 : List (S88)) (r3 : Int) (w : World) (hs0_0 : Kd.V k83 83 w w.heap.size (fun k_ => P0_0_ k_) (.slice A0_0 l0_0.length c0_0) l0_0) (hs0_1 : Kd.V k88 88 w w.heap.size (fun k_ => P0_1_ k_) (.slice A0_1 l0_1.length c0_1) l0_1) (h : ferryref03_Map.f k l0_0 l0_1 a1 a2 a3 = some (r1, r2, r3)) :
    Calls Try.prog 72 #[.agg #[.slice A0_0 l0_0.length c0_0, .slice A0_1 l0_1.length c0_1], .int .u64 a1, .int .u64 a2, .int .i64 a3] w fun e w' => ∃ v0_ v1_ : Value, e = .returned (.tuple #[.agg #[v0_, v1_], .int .i64 r3]) ∧ Kd.V k83 83 w' w.heap.size (fun k_ => ((P0_0_ k_ ∨ P0_1_ k_) ∨ w.heap.size ≤ k_)) v0_ r1 ∧ Kd.V k88 88 w' w.heap.size (fun k_ => ((P0_0_ k_ ∨ P0_1_ k_) ∨ w.heap.size ≤ k_)) v1_ r2 ∧ Below w.heap.size w w' := by
  have hu25 := Try.underlying25
  have hu83 := Try.underlying83
  have HO0_0 := Aside0.mk (show Kd.V k83 83 w w.heap.size (fun k_ => ((P0_0_ k_ ∨ P0_1_ k_) ∨ w.heap.size ≤ k_)) (.slice A0_0 l0_0.length c0_0) l0_0 from Kd.V_mono hs0_0 (fun k_ hk => .inl (.inl hk)))
  have HO0_1 := Aside0.mk (show Kd.V k88 88 w w.heap.size (fun k_ => ((P0_0_ k_ ∨ P0_1_ k_) ∨ w.heap.size ≤ k_)) (.slice A0_1 l0_1.length c0_1) l0_1 from Kd.V_mono hs0_1 (fun k_ hk => .inl (.inr hk)))
  have HB := Aside0.mk (Below.refl w.heap.size w)
  have H : ((ferryref03_wrong.f a1 a2 a3).bind fun t235 => (if t235 = true then (some (l0_0, l0_1, 22)) else (ferryref03_Map.l0 k a1 a2 a3 0 l0_0 l0_1))) = some (r1, r2, r3) := h
  clear h
  replace H := Option.bind_eq_some_iff.mp H
  obtain ⟨t235, A50, H⟩ := H
  have A5 := Aside0.mk A50
  clear A50
  by_cases c6 : t235 = true
  · subst c6
    replace H := hP_ H
    simp only [Option.some.injEq, Prod.mk.injEq] at H
    obtain ⟨rfl, rfl, rfl⟩ := H
    go_enter Try.func72, Try.ntmps72
    go_wp2_with (first | ((with_reducible refine gate_dst (N := 4) rfl ?_); (try (refine gate_guard (by rfl) ?_; dsimp only)); refine bE_ 4 #[.slice A0_0 l0_0.length c0_0, .slice A0_1 l0_1.length c0_1] 25 ?_; intro gb233 hg w7 hbox hb; have BK233 := Aside0.mk hbox; have GW233 := geT_ w.heap.size hg; have GE233 := geT_ w.heap.size hg; replace HO0_0 := vE_ HO0_0.out hg hb; replace HO0_1 := vE_ HO0_1.out hg hb; replace HB := hB_ hb; clear hb hbox hg) | ((with_reducible refine gate_dst (N := 8) rfl ?_); (try (refine gate_guard (by rfl) ?_; dsimp only)); refine bE_ 8 #[.slice none 0 0, .slice none 0 0] 25 ?_; intro gb234 hg w8 hbox hb; have BK234 := Aside0.mk hbox; have GW234 := geT_ w.heap.size hg; have GE234 := geT_ w.heap.size hg; have NB233_234 := nlT_ BK233.out hg; have NB234_233 := ngT_ BK233.out hg; replace HO0_0 := vE_ HO0_0.out hg hb; replace HO0_1 := vE_ HO0_1.out hg hb; replace BK233 := kB_ BK233 hb; replace HB := hB_ hb; clear hb hbox hg) | ((with_reducible refine gate_callee (f := 102) rfl ?_); refine gL_ (some 19) Try.func102 #[.int .u64 a1, .int .u64 a2, .int .i64 a3] ?_; (with_reducible refine (ferryref03_wrong.calls a1 a2 a3 true _ A5.out).mono ?_); rintro e w' ⟨rfl, ⟨nd, rfl⟩⟩; refine ⟨_, rfl, ?_⟩; (try (rw [drewN_self w8]; generalize hq_ : World.drewN w8 _ = w8; replace HO0_0 : Aside0 (Kd.V k83 83 w8 w.heap.size (fun k_ => ((P0_0_ k_ ∨ P0_1_ k_) ∨ w.heap.size ≤ k_) ∧ k_ ≠ gb233 ∧ k_ ≠ gb234) (.slice A0_0 l0_0.length c0_0) l0_0) := ⟨by rw [← hq_]; exact (vM_ HO0_0.out)⟩; replace HO0_1 : Aside0 (Kd.V k88 88 w8 w.heap.size (fun k_ => ((P0_0_ k_ ∨ P0_1_ k_) ∨ w.heap.size ≤ k_) ∧ k_ ≠ gb233 ∧ k_ ≠ gb234) (.slice A0_1 l0_1.length c0_1) l0_1) := ⟨by rw [← hq_]; exact (vM_ HO0_1.out)⟩; replace BK233 : Aside0 (w8.heap[gb233]? = some (.cells #[.slice A0_0 l0_0.length c0_0, .slice A0_1 l0_1.length c0_1] 25 (0, 0))) := ⟨by rw [← hq_]; exact (bT_ BK233.out)⟩; replace BK234 : Aside0 (w8.heap[gb234]? = some (.cells #[.slice none 0 0, .slice none 0 0] 25 (0, 0))) := ⟨by rw [← hq_]; exact (bT_ BK234.out)⟩; replace HB : Aside0 (Below w.heap.size w w8) := ⟨by rw [← hq_]; exact beT_⟩; clear hq_)); have hnb9 := NB233_234.out; have hnc9 := NB234_233.out; obtain ⟨hcz10_0, hcz10_1, hfz10_0, hfz10_1⟩ := b2_ BK233.out; obtain ⟨hcz11_0, hcz11_1, hfz11_0, hfz11_1⟩ := b2_ BK234.out))
    refine bodyPost_ret (results_ct rfl _ _ gb234 25 #[.slice A0_0 l0_0.length c0_0, .slice A0_1 l0_1.length c0_1] (0, 0) _ rfl (kP_ BK234.out) Try.underlying25 rfl (by kernel_rfl)) rfl ?_
    exact ⟨_, _, r3_, (vF_ HO0_0.out), (vF_ HO0_1.out), beT_⟩
  replace c6 := Bool.eq_false_iff.mpr c6
  subst c6
  replace H := hN_ H
  have H' := Aside0.mk H
  clear H
  go_enter Try.func72, Try.ntmps72
  go_wp2_with (first | ((with_reducible refine gate_dst (N := 4) rfl ?_); (try (refine gate_guard (by rfl) ?_; dsimp only)); refine bE_ 4 #[.slice A0_0 l0_0.length c0_0, .slice A0_1 l0_1.length c0_1] 25 ?_; intro gb233 hg w12 hbox hb; have BK233 := Aside0.mk hbox; have GW233 := geT_ w.heap.size hg; have GE233 := geT_ w.heap.size hg; replace HO0_0 := vE_ HO0_0.out hg hb; replace HO0_1 := vE_ HO0_1.out hg hb; replace HB := hB_ hb; clear hb hbox hg) | ((with_reducible refine gate_dst (N := 8) rfl ?_); (try (refine gate_guard (by rfl) ?_; dsimp only)); refine bE_ 8 #[.slice none 0 0, .slice none 0 0] 25 ?_; intro gb234 hg w13 hbox hb; have BK234 := Aside0.mk hbox; have GW234 := geT_ w.heap.size hg; have GE234 := geT_ w.heap.size hg; have NB233_234 := nlT_ BK233.out hg; have NB234_233 := ngT_ BK233.out hg; replace HO0_0 := vE_ HO0_0.out hg hb; replace HO0_1 := vE_ HO0_1.out hg hb; replace BK233 := kB_ BK233 hb; replace HB := hB_ hb; clear hb hbox hg) | ((with_reducible refine gate_callee (f := 102) rfl ?_); refine gL_ (some 19) Try.func102 #[.int .u64 a1, .int .u64 a2, .int .i64 a3] ?_; (with_reducible refine (ferryref03_wrong.calls a1 a2 a3 false _ A5.out).mono ?_); rintro e w' ⟨rfl, ⟨nd, rfl⟩⟩; refine ⟨_, rfl, ?_⟩))
  go_loopg [11] k (fun kq v11 w' => ∃ (x11_1 : Int), v11 = .int .i64 x11_1 ∧ Aside0 (ferryref03_Map.l0 kq a1 a2 a3 x11_1 l0_0 l0_1 = some (r1, r2, r3)) ∧ Aside0 (kq ≤ k) ∧ Aside0 (Kd.V k83 83 w' w.heap.size (fun k_ => ((P0_0_ k_ ∨ P0_1_ k_) ∨ w.heap.size ≤ k_) ∧ k_ ≠ gb233 ∧ k_ ≠ gb234) (.slice A0_0 l0_0.length c0_0) l0_0) ∧ Aside0 (Kd.V k88 88 w' w.heap.size (fun k_ => ((P0_0_ k_ ∨ P0_1_ k_) ∨ w.heap.size ≤ k_) ∧ k_ ≠ gb233 ∧ k_ ≠ gb234) (.slice A0_1 l0_1.length c0_1) l0_1) ∧ Aside0 (w'.heap[gb233]? = some (.cells #[(.slice A0_0 l0_0.length c0_0), (.slice A0_1 l0_1.length c0_1)] 25 (0, 0))) ∧ Aside0 (w'.heap[gb234]? = some (.cells #[(.slice none 0 0), (.slice none 0 0)] 25 (0, 0))) ∧ Aside0 (Below w.heap.size w w'))
  case atStart => exact ⟨(0), r1_, H', ⟨Nat.le_refl _⟩, ⟨vM_ HO0_0.out⟩, ⟨vM_ HO0_1.out⟩, ⟨bT_ BK233.out⟩, ⟨bT_ BK234.out⟩, ⟨beT_⟩⟩
  case round =>
    clear H'
    obtain ⟨x11_1, rfl, HA, HK1, HO_234000, HO_234001, BK233, BK234, HB⟩ := hrel
    cases gk with
    | zero => exact absurd HA.out (by simp [ferryref03_Map.l0])
    | succ k1 =>
      have H := HA.out
      clear HA
      simp only [ferryref03_Map.l0] at H
      by_cases c14 : x11_1 < (l0_0.length : Int)
      · rw [if_pos c14] at H
        have c14b0 : decide (x11_1 < (l0_0.length : Int)) = true := decide_eq_true c14
        clear c14
        by_cases c15 : 0 ≤ x11_1
        · rw [if_pos c15] at H
          have c15b0 : decide (0 ≤ x11_1) = true := decide_eq_true c15
          clear c15
          by_cases c16 : ((rd_T83 l0_0 x11_1).f0) ≥ a1
          · rw [if_pos c16] at H
            have c16b0 : decide (a1 ≤ ((rd_T83 l0_0 x11_1).f0)) = true := decide_eq_true c16
            clear c16
            by_cases c17 : (IntKind.u64.wrap (((rd_T83 l0_0 x11_1).f0) - a1)) < a2
            · rw [if_pos c17] at H
              have c17b0 : decide ((IntKind.u64.wrap (((rd_T83 l0_0 x11_1).f0) - a1)) < a2) = true := decide_eq_true c17
              clear c17
              simp only [Option.some.injEq, Prod.mk.injEq] at H
              obtain ⟨rfl, rfl, rfl⟩ := H
              have hnb18 := NB233_234.out
              have hnc18 := NB234_233.out
              obtain ⟨hcz19_0, hcz19_1, hfz19_0, hfz19_1⟩ := b2_ BK233.out
              have p236 : 0 ≤ (x11_1 : Int) := dT_
              have q236 : x11_1 < (l0_0.length : Int) := dT_
              obtain ⟨ad236, e236, hx236_0, hx236_1⟩ := at_T83 (Kd.V_reads' HO_234000.out).2.2 x11_1 p236 q236
              cases e236
              replace p236 := eq_true p236
              replace q236 := eq_true q236
              obtain ⟨hcz20_0, hcz20_1, hfz20_0, hfz20_1⟩ := b2_ BK234.out
              go_wp2
              refine bodyPost_ret (results_ct rfl _ _ gb234 25 #[.slice (some ad236) l0_0.length c0_0, .slice A0_1 l0_1.length c0_1] (0, 0) _ rfl (kP_ BK234.out) Try.underlying25 rfl (by kernel_rfl)) rfl ?_
              exact ⟨_, _, r3_, (vF_ HO_234000.out), (vF_ HO_234001.out), beT_⟩
            rw [if_neg c17] at H
            have c17b0 : decide ((IntKind.u64.wrap (((rd_T83 l0_0 x11_1).f0) - a1)) < a2) = false := decide_eq_false c17
            clear c17
            have H' := Aside0.mk H
            clear H
            have hnb21 := NB233_234.out
            have hnc21 := NB234_233.out
            obtain ⟨hcz22_0, hcz22_1, hfz22_0, hfz22_1⟩ := b2_ BK233.out
            have p236 : 0 ≤ (x11_1 : Int) := dT_
            have q236 : x11_1 < (l0_0.length : Int) := dT_
            obtain ⟨ad236, e236, hx236_0, hx236_1⟩ := at_T83 (Kd.V_reads' HO_234000.out).2.2 x11_1 p236 q236
            cases e236
            replace p236 := eq_true p236
            replace q236 := eq_true q236
            go_wp2
            go_roundg k1
            case measure => have := HK1.out; omega
            case rel => exact ⟨(wrap64 (x11_1 + 1)), r1_, H', ⟨by have := HK1.out; omega⟩, ⟨vT_ HO_234000.out⟩, ⟨vT_ HO_234001.out⟩, ⟨bT_ BK233.out⟩, ⟨bT_ BK234.out⟩, ⟨beT_⟩⟩
          rw [if_neg c16] at H
          have c16b0 : decide (a1 ≤ ((rd_T83 l0_0 x11_1).f0)) = false := decide_eq_false c16
          clear c16
          have H' := Aside0.mk H
          clear H
          have hnb23 := NB233_234.out
          have hnc23 := NB234_233.out
          obtain ⟨hcz24_0, hcz24_1, hfz24_0, hfz24_1⟩ := b2_ BK233.out
          have p236 : 0 ≤ (x11_1 : Int) := dT_
          have q236 : x11_1 < (l0_0.length : Int) := dT_
          obtain ⟨ad236, e236, hx236_0, hx236_1⟩ := at_T83 (Kd.V_reads' HO_234000.out).2.2 x11_1 p236 q236
          cases e236
          replace p236 := eq_true p236
          replace q236 := eq_true q236
          go_wp2
          go_roundg k1
          case measure => have := HK1.out; omega
          case rel => exact ⟨(wrap64 (x11_1 + 1)), r1_, H', ⟨by have := HK1.out; omega⟩, ⟨vT_ HO_234000.out⟩, ⟨vT_ HO_234001.out⟩, ⟨bT_ BK233.out⟩, ⟨bT_ BK234.out⟩, ⟨beT_⟩⟩
        rw [if_neg c15] at H
        exact absurd H (by simp)
      rw [if_neg c14] at H
      have c14b0 : decide (x11_1 < (l0_0.length : Int)) = false := decide_eq_false c14
      clear c14
      by_cases c25 : a2 > (IntKind.u64.wrap (wrap64 (64 - (l0_0.length : Int))))
      · rw [if_pos c25] at H
        have c25b0 : decide ((IntKind.u64.wrap (wrap64 (64 - (l0_0.length : Int)))) < a2) = true := decide_eq_true c25
        clear c25
        simp only [Option.some.injEq, Prod.mk.injEq] at H
        obtain ⟨rfl, rfl, rfl⟩ := H
        have hnb26 := NB233_234.out
        have hnc26 := NB234_233.out
        obtain ⟨hcz27_0, hcz27_1, hfz27_0, hfz27_1⟩ := b2_ BK233.out
        obtain ⟨hcz28_0, hcz28_1, hfz28_0, hfz28_1⟩ := b2_ BK234.out
        go_wp2
        refine bodyPost_ret (results_ct rfl _ _ gb234 25 #[.slice A0_0 l0_0.length c0_0, .slice A0_1 l0_1.length c0_1] (0, 0) _ rfl (kP_ BK234.out) Try.underlying25 rfl (by kernel_rfl)) rfl ?_
        exact ⟨_, _, r3_, (vF_ HO_234000.out), (vF_ HO_234001.out), beT_⟩
      rw [if_neg c25] at H
      have c25b0 : decide ((IntKind.u64.wrap (wrap64 (64 - (l0_0.length : Int)))) < a2) = false := decide_eq_false c25
      clear c25
      have H' := Aside0.mk H
      clear H
      have hnb29 := NB233_234.out
      have hnc29 := NB234_233.out
      obtain ⟨hcz30_0, hcz30_1, hfz30_0, hfz30_1⟩ := b2_ BK233.out
      go_wp2
      go_loopg [10, 13, 14] k1 (fun kq v10 v13 v14 w' => ∃ (x10_2 : List (S83)) (x13_2 : Bool) (x14_2 : Int), v13 = .bool x13_2 ∧ v14 = .int .i64 x14_2 ∧ Aside0 (ferryref03_Map.l1 kq a1 a2 a3 x10_2 x13_2 x14_2 l0_0 l0_1 = some (r1, r2, r3)) ∧ Aside0 (kq ≤ k1) ∧ Aside0 (Kd.R k83 83 w' w.heap.size (fun k_ => (w.heap.size ≤ k_)) v10 x10_2) ∧ Aside0 (Kd.V k83 83 w' w.heap.size (fun k_ => ((P0_0_ k_ ∨ P0_1_ k_) ∨ w.heap.size ≤ k_) ∧ some k_ ≠ (v10 : Value).ownBlock ∧ k_ ≠ gb233 ∧ k_ ≠ gb234) (.slice A0_0 l0_0.length c0_0) l0_0) ∧ Aside0 (Kd.V k88 88 w' w.heap.size (fun k_ => ((P0_0_ k_ ∨ P0_1_ k_) ∨ w.heap.size ≤ k_) ∧ some k_ ≠ (v10 : Value).ownBlock ∧ k_ ≠ gb233 ∧ k_ ≠ gb234) (.slice A0_1 l0_1.length c0_1) l0_1) ∧ Aside0 (w'.heap[gb233]? = some (.cells #[(.slice A0_0 l0_0.length c0_0), (.slice A0_1 l0_1.length c0_1)] 25 (0, 0))) ∧ Aside0 (w'.heap[gb234]? = some (.cells #[(.slice none 0 0), (.slice none 0 0)] 25 (0, 0))) ∧ Aside0 (Below w.heap.size w w'))
      case atStart => exact ⟨(([] : List (S83))), (false), (0), r1_, r1_, H', ⟨Nat.le_refl _⟩, ⟨by exact Kd.R_nil _ _ _ _ _⟩, ⟨vM_ HO_234000.out⟩, ⟨vM_ HO_234001.out⟩, ⟨bT_ BK233.out⟩, ⟨bT_ BK234.out⟩, ⟨beT_⟩⟩
      case round =>
        clear H'
        try clear c14b0
        try clear c25b0
        try clear hcz30_0
        try clear hcz30_1
        try clear hfz30_0
        try clear hfz30_1
        obtain ⟨x10_2, x13_2, x14_2, rfl, rfl, HA, HK2, HO_10, HO_234000, HO_234001, BK233, BK234, HB⟩ := hrel
        cases gk with
        | zero => exact absurd HA.out (by simp [ferryref03_Map.l1])
        | succ k2 =>
          have H := HA.out
          clear HA
          simp only [ferryref03_Map.l1] at H
          by_cases c31 : x14_2 ≤ (l0_0.length : Int)
          · rw [if_pos c31] at H
            have c31b0 : decide (x14_2 ≤ (l0_0.length : Int)) = true := decide_eq_true c31
            clear c31
            have HC32 := Aside0.mk H
            clear H
            have hnb33 := NB233_234.out
            have hnc33 := NB234_233.out
            obtain ⟨hcz34_0, hcz34_1, hfz34_0, hfz34_1⟩ := b2_ BK233.out
            go_upto_region 16 with (fail)
            go_cut [78] (fun v78 wc => ∃ (kq : Nat) (x78_31 : Bool), v78 = .bool x78_31 ∧ Aside0 (ferryref03_Map.j2 kq a1 a2 a3 x10_2 x13_2 x14_2 x78_31 l0_0 l0_1 = some (r1, r2, r3)) ∧ Aside0 (kq ≤ k2) ∧ Aside0 (Kd.R k83 83 wc w.heap.size (fun k_ => (w.heap.size ≤ k_)) u10 x10_2) ∧ Aside0 (Kd.V k83 83 wc w.heap.size (fun k_ => ((P0_0_ k_ ∨ P0_1_ k_) ∨ w.heap.size ≤ k_) ∧ some k_ ≠ (u10 : Value).ownBlock ∧ k_ ≠ gb233 ∧ k_ ≠ gb234) (.slice A0_0 l0_0.length c0_0) l0_0) ∧ Aside0 (Kd.V k88 88 wc w.heap.size (fun k_ => ((P0_0_ k_ ∨ P0_1_ k_) ∨ w.heap.size ≤ k_) ∧ some k_ ≠ (u10 : Value).ownBlock ∧ k_ ≠ gb233 ∧ k_ ≠ gb234) (.slice A0_1 l0_1.length c0_1) l0_1) ∧ Aside0 (wc.heap[gb233]? = some (.cells #[(.slice A0_0 l0_0.length c0_0), (.slice A0_1 l0_1.length c0_1)] 25 (0, 0))) ∧ Aside0 (wc.heap[gb234]? = some (.cells #[(.slice none 0 0), (.slice none 0 0)] 25 (0, 0))) ∧ Aside0 (Below w.heap.size w wc))
            case first =>
              have H := HC32.out
              clear HC32
              by_cases c35 : x13_2 = true
              · subst c35
                replace H := hP_ H
                have H' := Aside0.mk H
                clear H
                go_wp2
                go_meet
                case rel => exact ⟨_, (false), r1_, H', ⟨by have := HK1.out; have := HK2.out; omega⟩, ⟨rT_ HO_10.out⟩, ⟨vT_ HO_234000.out⟩, ⟨vT_ HO_234001.out⟩, ⟨bT_ BK233.out⟩, ⟨bT_ BK234.out⟩, ⟨beT_⟩⟩
              replace c35 := Bool.eq_false_iff.mpr c35
              subst c35
              replace H := hN_ H
              by_cases c36 : x14_2 = (l0_0.length : Int)
              · rw [if_pos c36] at H
                have c36b0 : (x14_2 == (l0_0.length : Int)) = true := beq_iff_eq.mpr c36
                have c36b1 : (x14_2 != (l0_0.length : Int)) = false := bne_eq_false_iff_eq.mpr c36
                clear c36
                (skip)
                have H' := Aside0.mk H
                clear H
                have hnb37 := NB233_234.out
                have hnc37 := NB234_233.out
                obtain ⟨hcz38_0, hcz38_1, hfz38_0, hfz38_1⟩ := b2_ BK233.out
                go_wp2
                go_meet
                case rel => exact ⟨_, (true), r1_, H', ⟨by have := HK1.out; have := HK2.out; omega⟩, ⟨rT_ HO_10.out⟩, ⟨vT_ HO_234000.out⟩, ⟨vT_ HO_234001.out⟩, ⟨bT_ BK233.out⟩, ⟨bT_ BK234.out⟩, ⟨beT_⟩⟩
              rw [if_neg c36] at H
              have c36b0 : (x14_2 == (l0_0.length : Int)) = false := beq_eq_false_iff_ne.mpr c36
              have c36b1 : (x14_2 != (l0_0.length : Int)) = true := bne_iff_ne.mpr c36
              (skip)
              by_cases c39 : 0 ≤ x14_2
              · rw [if_pos c39] at H
                have c39b0 : decide (0 ≤ x14_2) = true := decide_eq_true c39
                clear c39
                by_cases c40 : x14_2 < (l0_0.length : Int)
                · rw [if_pos c40] at H
                  have c40b0 : decide (x14_2 < (l0_0.length : Int)) = true := decide_eq_true c40
                  clear c40
                  have H' := Aside0.mk H
                  clear H
                  have hnb41 := NB233_234.out
                  have hnc41 := NB234_233.out
                  obtain ⟨hcz42_0, hcz42_1, hfz42_0, hfz42_1⟩ := b2_ BK233.out
                  have p237 : 0 ≤ (x14_2 : Int) := dT_
                  have q237 : x14_2 < (l0_0.length : Int) := dT_
                  obtain ⟨ad237, e237, hx237_0, hx237_1⟩ := at_T83 (Kd.V_reads' HO_234000.out).2.2 x14_2 p237 q237
                  cases e237
                  replace p237 := eq_true p237
                  replace q237 := eq_true q237
                  go_wp2
                  go_meet
                  case rel => exact ⟨_, (decide (((rd_T83 l0_0 x14_2).f0) > a1)), r1_, H', ⟨by have := HK1.out; have := HK2.out; omega⟩, ⟨rT_ HO_10.out⟩, ⟨vT_ HO_234000.out⟩, ⟨vT_ HO_234001.out⟩, ⟨bT_ BK233.out⟩, ⟨bT_ BK234.out⟩, ⟨beT_⟩⟩
                rw [if_neg c40] at H
                exact absurd H (by simp)
              rw [if_neg c39] at H
              exact absurd H (by simp)
            case rest =>
              clear HC32
              try clear c31b0
              try clear hcz34_0
              try clear hcz34_1
              try clear hfz34_0
              try clear hfz34_1
              obtain ⟨kq, x78_31, rfl, HA, HJ31, HO_10, HO_234000, HO_234001, BK233, BK234, HB⟩ := hcut
              cases kq with
              | zero => exact absurd HA.out (by simp [ferryref03_Map.j2])
              | succ kj31 =>
                have H := HA.out
                clear HA
                simp only [ferryref03_Map.j2] at H
                by_cases c43 : x78_31 = true
                · subst c43
                  replace H := hP_ H
                  have H' := Aside0.mk H
                  clear H
                  go_wp2
                  go_loopg [10, 15] kj31 (fun kq v10 v15 w' => ∃ (x10_4 : List (S83)) (x15_4 : Int), v15 = .int .u64 x15_4 ∧ Aside0 (ferryref03_Map.l2 kq a1 a2 a3 x10_4 x14_2 x15_4 l0_0 l0_1 = some (r1, r2, r3)) ∧ Aside0 (kq ≤ kj31) ∧ Aside0 (Kd.R k83 83 w' w.heap.size (fun k_ => (w.heap.size ≤ k_)) v10 x10_4) ∧ Aside0 (Kd.V k83 83 w' w.heap.size (fun k_ => ((P0_0_ k_ ∨ P0_1_ k_) ∨ w.heap.size ≤ k_) ∧ some k_ ≠ (v10 : Value).ownBlock ∧ k_ ≠ gb233 ∧ k_ ≠ gb234) (.slice A0_0 l0_0.length c0_0) l0_0) ∧ Aside0 (Kd.V k88 88 w' w.heap.size (fun k_ => ((P0_0_ k_ ∨ P0_1_ k_) ∨ w.heap.size ≤ k_) ∧ some k_ ≠ (v10 : Value).ownBlock ∧ k_ ≠ gb233 ∧ k_ ≠ gb234) (.slice A0_1 l0_1.length c0_1) l0_1) ∧ Aside0 (w'.heap[gb233]? = some (.cells #[(.slice A0_0 l0_0.length c0_0), (.slice A0_1 l0_1.length c0_1)] 25 (0, 0))) ∧ Aside0 (w'.heap[gb234]? = some (.cells #[(.slice none 0 0), (.slice none 0 0)] 25 (0, 0))) ∧ Aside0 (Below w.heap.size w w'))
                  case atStart => exact ⟨(x10_2), (0), r1_, H', ⟨Nat.le_refl _⟩, ⟨rT_ HO_10.out⟩, ⟨vT_ HO_234000.out⟩, ⟨vT_ HO_234001.out⟩, ⟨bT_ BK233.out⟩, ⟨bT_ BK234.out⟩, ⟨beT_⟩⟩
                  case round =>
                    clear H'
                    obtain ⟨x10_4, x15_4, rfl, HA, HK4, HO_10, HO_234000, HO_234001, BK233, BK234, HB⟩ := hrel
                    cases gk with
                    | zero => exact absurd HA.out (by simp [ferryref03_Map.l2])
                    | succ k4 =>
                      have H := HA.out
                      clear HA
                      simp only [ferryref03_Map.l2] at H
                      by_cases c44 : x15_4 < a2
                      · rw [if_pos c44] at H
                        have c44b0 : decide (x15_4 < a2) = true := decide_eq_true c44
                        clear c44
                        by_cases c45 : x10_4.length < 8796093022208
                        · rw [if_pos c45] at H
                          have LMc45 := Aside0.mk c45
                          clear c45
                          obtain ⟨y238, hy238⟩ : ∃ y_ : List (S83), y_ = (x10_4 ++ [(⟨IntKind.u64.wrap (a1 + x15_4), a3⟩ : S83)]) := ⟨_, rfl⟩
                          replace H : (ferryref03_Map.l2 k4 a1 a2 a3 y238 x14_2 (IntKind.u64.wrap (x15_4 + 1)) l0_0 l0_1) = some (r1, r2, r3) := by (rw [hy238]; with_reducible exact H)
                          have Ny238 := Aside0.mk hy238
                          clear hy238
                          have H' := Aside0.mk H
                          clear H
                          go_wp2_with (((with_reducible refine gate_builtin (b := .append) (xs := #[.tmp 84, .tmp 90]) rfl ?_); (try (refine gate_guard (by rfl) ?_; dsimp only)); at_builtin; refine Kd.R_append k83 (w0 := w) w.heap.size rfl (.tmp 84) (.tmp 90) 22 83 (.agg #[(.int .u64 0), (.int .i64 0)]) 16 rfl Try.underlying22 info83 rfl (by decide) (by omega) u10 x10_4 (⟨IntKind.u64.wrap (a1 + x15_4), a3⟩ : S83) [.int .u64 (IntKind.u64.wrap (a1 + x15_4)), .int .i64 a3] (fun k_ => (w.heap.size ≤ k_)) (fun _ => False) rfl rfl ?aP (fun _ hk => hk.elim) ?aF ?aO ?aB ?aS ?aL ?_; (case aP => exact k83_mkM _ _ _ (⟨IntKind.u64.wrap (a1 + x15_4), a3⟩ : S83)); (case aB => exact beT_); (case aF => exact (fun k_ hk => (Nat.le_trans (below_size beT_) hk))); (case aO => exact (rT_ HO_10.out)); (case aS => exact (below_size beT_)); (case aL => have := LMc45.out; omega); intro v239 w46 ho hb hg hat; rw [← Ny238.out] at ho; have HO240 := Aside0.mk ho; replace HO_234000 := Aside0.mk (Kd.V_afterv (ok := (fun k_ => ((P0_0_ k_ ∨ P0_1_ k_) ∨ w.heap.size ≤ k_) ∧ k_ ≠ gb233 ∧ k_ ≠ gb234)) (vM_ HO_234000.out) hg hat); replace HO_234001 := Aside0.mk (Kd.V_afterv (ok := (fun k_ => ((P0_0_ k_ ∨ P0_1_ k_) ∨ w.heap.size ≤ k_) ∧ k_ ≠ gb233 ∧ k_ ≠ gb234)) (vM_ HO_234001.out) hg hat); replace BK233 := kG_ BK233.out hg (Kd.R_ne HO_10.out BK233.out (by decide)); replace BK234 := kG_ BK234.out hg (Kd.R_ne HO_10.out BK234.out (by decide)); replace HB := Aside0.mk hb; clear HO_10; clear ho hb hg hat))
                          go_roundg k4
                          case measure => have := HK1.out; have := HK2.out; have := HJ31.out; have := HK4.out; omega
                          case rel => exact ⟨(y238), (IntKind.u64.wrap (x15_4 + 1)), r1_, H', ⟨by have := HK1.out; have := HK2.out; have := HJ31.out; have := HK4.out; omega⟩, ⟨rT_ HO240.out⟩, ⟨vM_ HO_234000.out⟩, ⟨vM_ HO_234001.out⟩, ⟨bT_ BK233.out⟩, ⟨bT_ BK234.out⟩, ⟨beT_⟩⟩
                        rw [if_neg c45] at H
                        exact absurd H (by simp)
                      rw [if_neg c44] at H
                      have c44b0 : decide (x15_4 < a2) = false := decide_eq_false c44
                      clear c44
                      by_cases c47 : x14_2 < (l0_0.length : Int)
                      · rw [if_pos c47] at H
                        have c47b0 : decide (x14_2 < (l0_0.length : Int)) = true := decide_eq_true c47
                        clear c47
                        by_cases c48 : 0 ≤ x14_2
                        · rw [if_pos c48] at H
                          have c48b0 : decide (0 ≤ x14_2) = true := decide_eq_true c48
                          clear c48
                          by_cases c49 : x10_4.length < 8796093022208
                          · rw [if_pos c49] at H
                            have LMc49 := Aside0.mk c49
                            clear c49
                            obtain ⟨y242, hy242⟩ : ∃ y_ : List (S83), y_ = (x10_4 ++ [(⟨(rd_T83 l0_0 x14_2).f0, (rd_T83 l0_0 x14_2).f1⟩ : S83)]) := ⟨_, rfl⟩
                            replace H : (ferryref03_Map.l1 k4 a1 a2 a3 y242 true (wrap64 (x14_2 + 1)) l0_0 l0_1) = some (r1, r2, r3) := by (rw [hy242]; with_reducible exact H)
                            have Ny242 := Aside0.mk hy242
                            clear hy242
                            have H' := Aside0.mk H
                            clear H
                            have hnb50 := NB233_234.out
                            have hnc50 := NB234_233.out
                            obtain ⟨hcz51_0, hcz51_1, hfz51_0, hfz51_1⟩ := b2_ BK233.out
                            have p241 : 0 ≤ (x14_2 : Int) := dT_
                            have q241 : x14_2 < (l0_0.length : Int) := dT_
                            obtain ⟨ad241, e241, hx241_0, hx241_1⟩ := at_T83 (Kd.V_reads' HO_234000.out).2.2 x14_2 p241 q241
                            cases e241
                            replace p241 := eq_true p241
                            replace q241 := eq_true q241
                            go_wp2_with (((with_reducible refine gate_builtin (b := .append) (xs := #[.tmp 97, .tmp 103]) rfl ?_); (try (refine gate_guard (by rfl) ?_; dsimp only)); at_builtin; refine Kd.R_append k83 (w0 := w) w.heap.size rfl (.tmp 97) (.tmp 103) 22 83 (.agg #[(.int .u64 0), (.int .i64 0)]) 16 rfl Try.underlying22 info83 rfl (by decide) (by omega) u10 x10_4 (⟨(rd_T83 l0_0 x14_2).f0, (rd_T83 l0_0 x14_2).f1⟩ : S83) [.int .u64 ((rd_T83 l0_0 x14_2).f0), .int .i64 ((rd_T83 l0_0 x14_2).f1)] (fun k_ => (w.heap.size ≤ k_)) (fun _ => False) rfl rfl ?aP (fun _ hk => hk.elim) ?aF ?aO ?aB ?aS ?aL ?_; (case aP => exact k83_mkM _ _ _ (⟨(rd_T83 l0_0 x14_2).f0, (rd_T83 l0_0 x14_2).f1⟩ : S83)); (case aB => exact beT_); (case aF => exact (fun k_ hk => (Nat.le_trans (below_size beT_) hk))); (case aO => exact (rT_ HO_10.out)); (case aS => exact (below_size beT_)); (case aL => have := LMc49.out; omega); intro v243 w52 ho hb hg hat; rw [← Ny242.out] at ho; have HO244 := Aside0.mk ho; replace HO_234000 := Aside0.mk (Kd.V_afterv (ok := (fun k_ => ((P0_0_ k_ ∨ P0_1_ k_) ∨ w.heap.size ≤ k_) ∧ k_ ≠ gb233 ∧ k_ ≠ gb234)) (vM_ HO_234000.out) hg hat); replace HO_234001 := Aside0.mk (Kd.V_afterv (ok := (fun k_ => ((P0_0_ k_ ∨ P0_1_ k_) ∨ w.heap.size ≤ k_) ∧ k_ ≠ gb233 ∧ k_ ≠ gb234)) (vM_ HO_234001.out) hg hat); replace BK233 := kG_ BK233.out hg (Kd.R_ne HO_10.out BK233.out (by decide)); replace BK234 := kG_ BK234.out hg (Kd.R_ne HO_10.out BK234.out (by decide)); replace HB := Aside0.mk hb; clear HO_10; clear ho hb hg hat))
                            go_roundg k4
                            case measure => have := HK1.out; have := HK2.out; have := HJ31.out; have := HK4.out; omega
                            case rel => exact ⟨(y242), (true), (wrap64 (x14_2 + 1)), r1_, r1_, H', ⟨by have := HK1.out; have := HK2.out; have := HJ31.out; have := HK4.out; omega⟩, ⟨rT_ HO244.out⟩, ⟨vM_ HO_234000.out⟩, ⟨vM_ HO_234001.out⟩, ⟨bT_ BK233.out⟩, ⟨bT_ BK234.out⟩, ⟨beT_⟩⟩
                          rw [if_neg c49] at H
                          exact absurd H (by simp)
                        rw [if_neg c48] at H
                        exact absurd H (by simp)
                      rw [if_neg c47] at H
                      have c47b0 : decide (x14_2 < (l0_0.length : Int)) = false := decide_eq_false c47
                      clear c47
                      have H' := Aside0.mk H
                      clear H
                      have hnb53 := NB233_234.out
                      have hnc53 := NB234_233.out
                      obtain ⟨hcz54_0, hcz54_1, hfz54_0, hfz54_1⟩ := b2_ BK233.out
                      go_wp2
                      go_roundg k4
                      case measure => have := HK1.out; have := HK2.out; have := HJ31.out; have := HK4.out; omega
                      case rel => exact ⟨(x10_4), (true), (wrap64 (x14_2 + 1)), r1_, r1_, H', ⟨by have := HK1.out; have := HK2.out; have := HJ31.out; have := HK4.out; omega⟩, ⟨rT_ HO_10.out⟩, ⟨vT_ HO_234000.out⟩, ⟨vT_ HO_234001.out⟩, ⟨bT_ BK233.out⟩, ⟨bT_ BK234.out⟩, ⟨beT_⟩⟩
                replace c43 := Bool.eq_false_iff.mpr c43
                subst c43
                replace H := hN_ H
                by_cases c55 : x14_2 < (l0_0.length : Int)
                · rw [if_pos c55] at H
                  have c55b0 : decide (x14_2 < (l0_0.length : Int)) = true := decide_eq_true c55
                  clear c55
                  by_cases c56 : 0 ≤ x14_2
                  · rw [if_pos c56] at H
                    have c56b0 : decide (0 ≤ x14_2) = true := decide_eq_true c56
                    clear c56
                    by_cases c57 : x10_2.length < 8796093022208
                    · rw [if_pos c57] at H
                      have LMc57 := Aside0.mk c57
                      clear c57
                      obtain ⟨y246, hy246⟩ : ∃ y_ : List (S83), y_ = (x10_2 ++ [(⟨(rd_T83 l0_0 x14_2).f0, (rd_T83 l0_0 x14_2).f1⟩ : S83)]) := ⟨_, rfl⟩
                      replace H : (ferryref03_Map.l1 kj31 a1 a2 a3 y246 x13_2 (wrap64 (x14_2 + 1)) l0_0 l0_1) = some (r1, r2, r3) := by (rw [hy246]; with_reducible exact H)
                      have Ny246 := Aside0.mk hy246
                      clear hy246
                      have H' := Aside0.mk H
                      clear H
                      have hnb58 := NB233_234.out
                      have hnc58 := NB234_233.out
                      obtain ⟨hcz59_0, hcz59_1, hfz59_0, hfz59_1⟩ := b2_ BK233.out
                      have p245 : 0 ≤ (x14_2 : Int) := dT_
                      have q245 : x14_2 < (l0_0.length : Int) := dT_
                      obtain ⟨ad245, e245, hx245_0, hx245_1⟩ := at_T83 (Kd.V_reads' HO_234000.out).2.2 x14_2 p245 q245
                      cases e245
                      replace p245 := eq_true p245
                      replace q245 := eq_true q245
                      go_wp2_with (((with_reducible refine gate_builtin (b := .append) (xs := #[.tmp 97, .tmp 103]) rfl ?_); (try (refine gate_guard (by rfl) ?_; dsimp only)); at_builtin; refine Kd.R_append k83 (w0 := w) w.heap.size rfl (.tmp 97) (.tmp 103) 22 83 (.agg #[(.int .u64 0), (.int .i64 0)]) 16 rfl Try.underlying22 info83 rfl (by decide) (by omega) u10 x10_2 (⟨(rd_T83 l0_0 x14_2).f0, (rd_T83 l0_0 x14_2).f1⟩ : S83) [.int .u64 ((rd_T83 l0_0 x14_2).f0), .int .i64 ((rd_T83 l0_0 x14_2).f1)] (fun k_ => (w.heap.size ≤ k_)) (fun _ => False) rfl rfl ?aP (fun _ hk => hk.elim) ?aF ?aO ?aB ?aS ?aL ?_; (case aP => exact k83_mkM _ _ _ (⟨(rd_T83 l0_0 x14_2).f0, (rd_T83 l0_0 x14_2).f1⟩ : S83)); (case aB => exact beT_); (case aF => exact (fun k_ hk => (Nat.le_trans (below_size beT_) hk))); (case aO => exact (rT_ HO_10.out)); (case aS => exact (below_size beT_)); (case aL => have := LMc57.out; omega); intro v247 w60 ho hb hg hat; rw [← Ny246.out] at ho; have HO248 := Aside0.mk ho; replace HO_234000 := Aside0.mk (Kd.V_afterv (ok := (fun k_ => ((P0_0_ k_ ∨ P0_1_ k_) ∨ w.heap.size ≤ k_) ∧ k_ ≠ gb233 ∧ k_ ≠ gb234)) (vM_ HO_234000.out) hg hat); replace HO_234001 := Aside0.mk (Kd.V_afterv (ok := (fun k_ => ((P0_0_ k_ ∨ P0_1_ k_) ∨ w.heap.size ≤ k_) ∧ k_ ≠ gb233 ∧ k_ ≠ gb234)) (vM_ HO_234001.out) hg hat); replace BK233 := kG_ BK233.out hg (Kd.R_ne HO_10.out BK233.out (by decide)); replace BK234 := kG_ BK234.out hg (Kd.R_ne HO_10.out BK234.out (by decide)); replace HB := Aside0.mk hb; clear HO_10; clear ho hb hg hat))
                      go_roundg kj31
                      case measure => have := HK1.out; have := HK2.out; have := HJ31.out; omega
                      case rel => exact ⟨(y246), (x13_2), (wrap64 (x14_2 + 1)), r1_, r1_, H', ⟨by have := HK1.out; have := HK2.out; have := HJ31.out; omega⟩, ⟨rT_ HO248.out⟩, ⟨vM_ HO_234000.out⟩, ⟨vM_ HO_234001.out⟩, ⟨bT_ BK233.out⟩, ⟨bT_ BK234.out⟩, ⟨beT_⟩⟩
                    rw [if_neg c57] at H
                    exact absurd H (by simp)
                  rw [if_neg c56] at H
                  exact absurd H (by simp)
                rw [if_neg c55] at H
                have c55b0 : decide (x14_2 < (l0_0.length : Int)) = false := decide_eq_false c55
                clear c55
                have H' := Aside0.mk H
                clear H
                have hnb61 := NB233_234.out
                have hnc61 := NB234_233.out
                obtain ⟨hcz62_0, hcz62_1, hfz62_0, hfz62_1⟩ := b2_ BK233.out
                go_wp2
                go_roundg kj31
                case measure => have := HK1.out; have := HK2.out; have := HJ31.out; omega
                case rel => exact ⟨(x10_2), (x13_2), (wrap64 (x14_2 + 1)), r1_, r1_, H', ⟨by have := HK1.out; have := HK2.out; have := HJ31.out; omega⟩, ⟨rT_ HO_10.out⟩, ⟨vT_ HO_234000.out⟩, ⟨vT_ HO_234001.out⟩, ⟨bT_ BK233.out⟩, ⟨bT_ BK234.out⟩, ⟨beT_⟩⟩
          rw [if_neg c31] at H
          have c31b0 : decide (x14_2 ≤ (l0_0.length : Int)) = false := decide_eq_false c31
          clear c31
          simp only [Option.some.injEq, Prod.mk.injEq] at H
          obtain ⟨rfl, rfl, rfl⟩ := H
          have hnb63 := NB233_234.out
          have hnc63 := NB234_233.out
          obtain ⟨hcz64_0, hcz64_1, hfz64_0, hfz64_1⟩ := b2_ BK233.out
          obtain ⟨Ao65, co65, eo65⟩ := Kd.R_slice HO_10.out
          subst eo65
          obtain ⟨hcz66_0, hcz66_1, hfz66_0, hfz66_1⟩ := b2_ BK234.out
          go_wp2
          refine bodyPost_ret (results_ct rfl _ _ gb234 25 #[.slice Ao65 x10_2.length co65, .slice A0_1 l0_1.length c0_1] (0, 0) _ rfl (kP_ BK234.out) Try.underlying25 rfl (by kernel_rfl)) rfl ?_
          exact ⟨_, _, r3_, Kd.V_mono (Kd.R_V (by (with_reducible repeat (fail)); exact Kd.R_far (p := ⟨gb234, 1, none⟩) (Kd.R_far (p := ⟨gb234, 0, none⟩) (Kd.R_far (p := ⟨gb233, 0, none⟩) (Kd.R_types (Kd.R_types HO_10.out BK233.out (by decide)) BK234.out (by decide)) (fun _ hk => by exact hk.1.2) (.slice Ao65 x10_2.length co65)) (fun _ hk => by exact hk.2) (.slice Ao65 x10_2.length co65)) (fun _ hk => by exact hk.2) (.slice A0_1 l0_1.length c0_1))) (fun k_ hk => by exact .inr hk.1.1), (vF_ HO_234001.out), beT_⟩

end Go.Proofs.Ytgkjdpdmmlalcaa.F
end
