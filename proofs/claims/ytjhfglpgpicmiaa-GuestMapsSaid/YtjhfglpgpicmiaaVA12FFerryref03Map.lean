import Derived.Test.YtjhfglpgpicmiaaVZF0
import Derived.Test.YtjhfglpgpicmiaaVA5
import Derived.Test.YtjhfglpgpicmiaaVA11
section
namespace Go.Proofs.Ytjhfglpgpicmiaa.F
open Go.RowKit Go.Proofs.YtjhfglpgpicmiaaW.PrintWords Go.Proofs.YtjhfglpgpicmiaaW.PrintLast Go.Proofs.YtjhfglpgpicmiaaW.PrintMore
attribute [local go_sem] max2_int min2_int max_two min_two max_three min_three max_four min_four
attribute [local go_sem] cell_twice
set_option linter.unusedVariables false
set_option linter.unusedSimpArgs false

mutual
def ferryref03_Map.l0 : Nat → Int → Int → Int → Int → List (S55) → List (S60) → Option ((List (S55)) × (List (S60)) × Int)
  | 0, _, _, _, _, _, _ => none
  | k + 1, x1, x2, x3, x11, x318000, x318001 => if x11 < (x318000.length : Int) then (if 0 ≤ x11 then (if ((rd_T55 x318000 x11).f0) ≥ x1 then (if (IntKind.u64.wrap (((rd_T55 x318000 x11).f0) - x1)) < x2 then (some (x318000, x318001, 17)) else (ferryref03_Map.l0 k x1 x2 x3 (wrap64 (x11 + 1)) x318000 x318001)) else (ferryref03_Map.l0 k x1 x2 x3 (wrap64 (x11 + 1)) x318000 x318001)) else (none)) else (if x2 > (IntKind.u64.wrap (wrap64 (64 - (x318000.length : Int)))) then (some (x318000, x318001, 105)) else (ferryref03_Map.l1 k x1 x2 x3 ([] : List (S55)) false 0 x318000 x318001))
def ferryref03_Map.l1 : Nat → Int → Int → Int → List (S55) → Bool → Int → List (S55) → List (S60) → Option ((List (S55)) × (List (S60)) × Int)
  | 0, _, _, _, _, _, _, _, _ => none
  | k + 1, x1, x2, x3, x10, x13, x14, x318000, x318001 => if x14 ≤ (x318000.length : Int) then (if x13 = true then (ferryref03_Map.j2 k x1 x2 x3 x10 x13 x14 false x318000 x318001) else (if x14 = (x318000.length : Int) then (ferryref03_Map.j2 k x1 x2 x3 x10 x13 x14 true x318000 x318001) else (if 0 ≤ x14 then (if x14 < (x318000.length : Int) then (ferryref03_Map.j2 k x1 x2 x3 x10 x13 x14 (decide (((rd_T55 x318000 x14).f0) > x1)) x318000 x318001) else (none)) else (none)))) else (some (x10, x318001, 0))
def ferryref03_Map.j2 : Nat → Int → Int → Int → List (S55) → Bool → Int → Bool → List (S55) → List (S60) → Option ((List (S55)) × (List (S60)) × Int)
  | 0, _, _, _, _, _, _, _, _, _ => none
  | k + 1, x1, x2, x3, x10, x13, x14, x78, x318000, x318001 => if x78 = true then (ferryref03_Map.l2 k x1 x2 x3 x10 x14 0 x318000 x318001) else (if x14 < (x318000.length : Int) then (if 0 ≤ x14 then (if x10.length < 8796093022208 then (ferryref03_Map.l1 k x1 x2 x3 (x10 ++ [(⟨(rd_T55 x318000 x14).f0, (rd_T55 x318000 x14).f1⟩ : S55)]) x13 (wrap64 (x14 + 1)) x318000 x318001) else (none)) else (none)) else (ferryref03_Map.l1 k x1 x2 x3 x10 x13 (wrap64 (x14 + 1)) x318000 x318001))
def ferryref03_Map.l2 : Nat → Int → Int → Int → List (S55) → Int → Int → List (S55) → List (S60) → Option ((List (S55)) × (List (S60)) × Int)
  | 0, _, _, _, _, _, _, _, _ => none
  | k + 1, x1, x2, x3, x10, x14, x15, x318000, x318001 => if x15 < x2 then (if x10.length < 8796093022208 then (ferryref03_Map.l2 k x1 x2 x3 (x10 ++ [(⟨IntKind.u64.wrap (x1 + x15), x3⟩ : S55)]) x14 (IntKind.u64.wrap (x15 + 1)) x318000 x318001) else (none)) else (if x14 < (x318000.length : Int) then (if 0 ≤ x14 then (if x10.length < 8796093022208 then (ferryref03_Map.l1 k x1 x2 x3 (x10 ++ [(⟨(rd_T55 x318000 x14).f0, (rd_T55 x318000 x14).f1⟩ : S55)]) true (wrap64 (x14 + 1)) x318000 x318001) else (none)) else (none)) else (ferryref03_Map.l1 k x1 x2 x3 x10 true (wrap64 (x14 + 1)) x318000 x318001))
end
def ferryref03_Map.f (k : Nat) (l0_0 : List (S55)) (l0_1 : List (S60)) (a1 : Int) (a2 : Int) (a3 : Int) : Option ((List (S55)) × (List (S60)) × Int) := (ferryref03_wrong.f a1 a2 a3).bind fun t319 => (if t319 = true then (some (l0_0, l0_1, 22)) else (ferryref03_Map.l0 k a1 a2 a3 0 l0_0 l0_1))
set_option maxHeartbeats 8000000 in
set_option maxRecDepth 100000 in
theorem ferryref03_Map.calls (k : Nat) (P0_0_ : Nat → Prop) (A0_0 : Option Addr) (c0_0 : Nat) (l0_0 : List (S55)) (P0_1_ : Nat → Prop) (A0_1 : Option Addr) (c0_1 : Nat) (l0_1 : List (S60)) (a1 : Int) (a2 : Int) (a3 : Int) (r1 : List (S55)) (r2 : List (S60)) (r3 : Int) (w : World) (hs0_0 : Kd.V k55 55 w w.heap.size (fun k_ => P0_0_ k_) (.slice A0_0 l0_0.length c0_0) l0_0) (hs0_1 : Kd.V k60 60 w w.heap.size (fun k_ => P0_1_ k_) (.slice A0_1 l0_1.length c0_1) l0_1) (h : ferryref03_Map.f k l0_0 l0_1 a1 a2 a3 = some (r1, r2, r3)) :
    Calls Try.prog 44 #[.agg #[.slice A0_0 l0_0.length c0_0, .slice A0_1 l0_1.length c0_1], .int .u64 a1, .int .u64 a2, .int .i64 a3] w fun e w' => ∃ v0_ v1_ : Value, e = .returned (.tuple #[.agg #[v0_, v1_], .int .i64 r3]) ∧ Kd.V k55 55 w' w.heap.size (fun k_ => ((P0_0_ k_ ∨ P0_1_ k_) ∨ w.heap.size ≤ k_)) v0_ r1 ∧ Kd.V k60 60 w' w.heap.size (fun k_ => ((P0_0_ k_ ∨ P0_1_ k_) ∨ w.heap.size ≤ k_)) v1_ r2 ∧ Below w.heap.size w w' := by
  have hu25 := Try.underlying25
  have hu55 := Try.underlying55
  have HO0_0 := Aside0.mk (show Kd.V k55 55 w w.heap.size (fun k_ => ((P0_0_ k_ ∨ P0_1_ k_) ∨ w.heap.size ≤ k_)) (.slice A0_0 l0_0.length c0_0) l0_0 from Kd.V_mono hs0_0 (fun k_ hk => .inl (.inl hk)))
  have HO0_1 := Aside0.mk (show Kd.V k60 60 w w.heap.size (fun k_ => ((P0_0_ k_ ∨ P0_1_ k_) ∨ w.heap.size ≤ k_)) (.slice A0_1 l0_1.length c0_1) l0_1 from Kd.V_mono hs0_1 (fun k_ hk => .inl (.inr hk)))
  have HB := Aside0.mk (Below.refl w.heap.size w)
  have H : ((ferryref03_wrong.f a1 a2 a3).bind fun t319 => (if t319 = true then (some (l0_0, l0_1, 22)) else (ferryref03_Map.l0 k a1 a2 a3 0 l0_0 l0_1))) = some (r1, r2, r3) := h
  clear h
  replace H := Option.bind_eq_some_iff.mp H
  obtain ⟨t319, A50, H⟩ := H
  have A5 := Aside0.mk A50
  clear A50
  by_cases c6 : t319 = true
  · subst c6
    replace H := hP_ H
    simp only [Option.some.injEq, Prod.mk.injEq] at H
    obtain ⟨rfl, rfl, rfl⟩ := H
    go_enter Try.func44, Try.ntmps44
    go_wp2_with (first | ((with_reducible refine gate_dst (N := 4) rfl ?_); (try (refine gate_guard (by rfl) ?_; dsimp only)); refine bE_ 4 #[.slice A0_0 l0_0.length c0_0, .slice A0_1 l0_1.length c0_1] 25 ?_; intro gb317 hg w7 hbox hb; have BK317 := Aside0.mk hbox; have GW317 := geT_ w.heap.size hg; have GE317 := geT_ w.heap.size hg; replace HO0_0 := vE_ HO0_0.out hg hb; replace HO0_1 := vE_ HO0_1.out hg hb; replace HB := hB_ hb; clear hb hbox hg) | ((with_reducible refine gate_dst (N := 8) rfl ?_); (try (refine gate_guard (by rfl) ?_; dsimp only)); refine bE_ 8 #[.slice none 0 0, .slice none 0 0] 25 ?_; intro gb318 hg w8 hbox hb; have BK318 := Aside0.mk hbox; have GW318 := geT_ w.heap.size hg; have GE318 := geT_ w.heap.size hg; have NB317_318 := nlT_ BK317.out hg; have NB318_317 := ngT_ BK317.out hg; replace HO0_0 := vE_ HO0_0.out hg hb; replace HO0_1 := vE_ HO0_1.out hg hb; replace BK317 := kB_ BK317 hb; replace HB := hB_ hb; clear hb hbox hg) | ((with_reducible refine gate_callee (f := 81) rfl ?_); refine gL_ (some 19) Try.func81 #[.int .u64 a1, .int .u64 a2, .int .i64 a3] ?_; (with_reducible refine (ferryref03_wrong.calls a1 a2 a3 true _ A5.out).mono ?_); rintro e w' ⟨rfl, ⟨nd, rfl⟩⟩; refine ⟨_, rfl, ?_⟩; (try (rw [drewN_self w8]; generalize hq_ : World.drewN w8 _ = w8; replace HO0_0 : Aside0 (Kd.V k55 55 w8 w.heap.size (fun k_ => ((P0_0_ k_ ∨ P0_1_ k_) ∨ w.heap.size ≤ k_) ∧ k_ ≠ gb317 ∧ k_ ≠ gb318) (.slice A0_0 l0_0.length c0_0) l0_0) := ⟨by rw [← hq_]; exact (vM_ HO0_0.out)⟩; replace HO0_1 : Aside0 (Kd.V k60 60 w8 w.heap.size (fun k_ => ((P0_0_ k_ ∨ P0_1_ k_) ∨ w.heap.size ≤ k_) ∧ k_ ≠ gb317 ∧ k_ ≠ gb318) (.slice A0_1 l0_1.length c0_1) l0_1) := ⟨by rw [← hq_]; exact (vM_ HO0_1.out)⟩; replace BK317 : Aside0 (w8.heap[gb317]? = some (.cells #[.slice A0_0 l0_0.length c0_0, .slice A0_1 l0_1.length c0_1] 25 (0, 0))) := ⟨by rw [← hq_]; exact (bT_ BK317.out)⟩; replace BK318 : Aside0 (w8.heap[gb318]? = some (.cells #[.slice none 0 0, .slice none 0 0] 25 (0, 0))) := ⟨by rw [← hq_]; exact (bT_ BK318.out)⟩; replace HB : Aside0 (Below w.heap.size w w8) := ⟨by rw [← hq_]; exact beT_⟩; clear hq_)); have hnb9 := NB317_318.out; have hnc9 := NB318_317.out; obtain ⟨hcz10_0, hcz10_1, hfz10_0, hfz10_1⟩ := b2_ BK317.out; obtain ⟨hcz11_0, hcz11_1, hfz11_0, hfz11_1⟩ := b2_ BK318.out))
    refine bodyPost_ret (results_ct rfl _ _ gb318 25 #[.slice A0_0 l0_0.length c0_0, .slice A0_1 l0_1.length c0_1] (0, 0) _ rfl (kP_ BK318.out) Try.underlying25 rfl (by kernel_rfl)) rfl ?_
    exact ⟨_, _, r3_, (vF_ HO0_0.out), (vF_ HO0_1.out), beT_⟩
  replace c6 := Bool.eq_false_iff.mpr c6
  subst c6
  replace H := hN_ H
  have H' := Aside0.mk H
  clear H
  go_enter Try.func44, Try.ntmps44
  go_wp2_with (first | ((with_reducible refine gate_dst (N := 4) rfl ?_); (try (refine gate_guard (by rfl) ?_; dsimp only)); refine bE_ 4 #[.slice A0_0 l0_0.length c0_0, .slice A0_1 l0_1.length c0_1] 25 ?_; intro gb317 hg w12 hbox hb; have BK317 := Aside0.mk hbox; have GW317 := geT_ w.heap.size hg; have GE317 := geT_ w.heap.size hg; replace HO0_0 := vE_ HO0_0.out hg hb; replace HO0_1 := vE_ HO0_1.out hg hb; replace HB := hB_ hb; clear hb hbox hg) | ((with_reducible refine gate_dst (N := 8) rfl ?_); (try (refine gate_guard (by rfl) ?_; dsimp only)); refine bE_ 8 #[.slice none 0 0, .slice none 0 0] 25 ?_; intro gb318 hg w13 hbox hb; have BK318 := Aside0.mk hbox; have GW318 := geT_ w.heap.size hg; have GE318 := geT_ w.heap.size hg; have NB317_318 := nlT_ BK317.out hg; have NB318_317 := ngT_ BK317.out hg; replace HO0_0 := vE_ HO0_0.out hg hb; replace HO0_1 := vE_ HO0_1.out hg hb; replace BK317 := kB_ BK317 hb; replace HB := hB_ hb; clear hb hbox hg) | ((with_reducible refine gate_callee (f := 81) rfl ?_); refine gL_ (some 19) Try.func81 #[.int .u64 a1, .int .u64 a2, .int .i64 a3] ?_; (with_reducible refine (ferryref03_wrong.calls a1 a2 a3 false _ A5.out).mono ?_); rintro e w' ⟨rfl, ⟨nd, rfl⟩⟩; refine ⟨_, rfl, ?_⟩))
  go_loopg [11] k (fun kq v11 w' => ∃ (x11_1 : Int), v11 = .int .i64 x11_1 ∧ Aside0 (ferryref03_Map.l0 kq a1 a2 a3 x11_1 l0_0 l0_1 = some (r1, r2, r3)) ∧ Aside0 (kq ≤ k) ∧ Aside0 (Kd.V k55 55 w' w.heap.size (fun k_ => ((P0_0_ k_ ∨ P0_1_ k_) ∨ w.heap.size ≤ k_) ∧ k_ ≠ gb317 ∧ k_ ≠ gb318) (.slice A0_0 l0_0.length c0_0) l0_0) ∧ Aside0 (Kd.V k60 60 w' w.heap.size (fun k_ => ((P0_0_ k_ ∨ P0_1_ k_) ∨ w.heap.size ≤ k_) ∧ k_ ≠ gb317 ∧ k_ ≠ gb318) (.slice A0_1 l0_1.length c0_1) l0_1) ∧ Aside0 (w'.heap[gb317]? = some (.cells #[(.slice A0_0 l0_0.length c0_0), (.slice A0_1 l0_1.length c0_1)] 25 (0, 0))) ∧ Aside0 (w'.heap[gb318]? = some (.cells #[(.slice none 0 0), (.slice none 0 0)] 25 (0, 0))) ∧ Aside0 (Below w.heap.size w w'))
  case atStart => exact ⟨(0), r1_, H', ⟨Nat.le_refl _⟩, ⟨vM_ HO0_0.out⟩, ⟨vM_ HO0_1.out⟩, ⟨bT_ BK317.out⟩, ⟨bT_ BK318.out⟩, ⟨beT_⟩⟩
  case round =>
    clear H'
    try clear p2
    try clear c4
    try clear c6
    try clear c8
    try clear c9
    try clear hcz10_0
    try clear hcz10_1
    try clear hcz11_0
    try clear hcz11_1
    try clear hfz10_0
    try clear hfz10_1
    try clear hfz11_0
    try clear hfz11_1
    obtain ⟨x11_1, rfl, HA, HK1, HO_318000, HO_318001, BK317, BK318, HB⟩ := hrel
    cases gk with
    | zero => exact absurd HA.out (by simp [ferryref03_Map.l0])
    | succ k1 =>
      have H := HA.out
      clear HA
      simp only [ferryref03_Map.l0] at H
      by_cases c14 : x11_1 < (l0_0.length : Int)
      · rw [if_pos c14] at H
        have c14b0 : decide (x11_1 < (l0_0.length : Int)) = true := decide_eq_true c14
        clear c14
        by_cases c15 : 0 ≤ x11_1
        · rw [if_pos c15] at H
          have c15b0 : decide (0 ≤ x11_1) = true := decide_eq_true c15
          clear c15
          by_cases c16 : ((rd_T55 l0_0 x11_1).f0) ≥ a1
          · rw [if_pos c16] at H
            have c16b0 : decide (a1 ≤ ((rd_T55 l0_0 x11_1).f0)) = true := decide_eq_true c16
            clear c16
            by_cases c17 : (IntKind.u64.wrap (((rd_T55 l0_0 x11_1).f0) - a1)) < a2
            · rw [if_pos c17] at H
              have c17b0 : decide ((IntKind.u64.wrap (((rd_T55 l0_0 x11_1).f0) - a1)) < a2) = true := decide_eq_true c17
              clear c17
              simp only [Option.some.injEq, Prod.mk.injEq] at H
              obtain ⟨rfl, rfl, rfl⟩ := H
              have hnb18 := NB317_318.out
              have hnc18 := NB318_317.out
              obtain ⟨hcz19_0, hcz19_1, hfz19_0, hfz19_1⟩ := b2_ BK317.out
              have p320 : 0 ≤ (x11_1 : Int) := dT_
              have q320 : x11_1 < (l0_0.length : Int) := dT_
              obtain ⟨ad320, e320, hx320_0, hx320_1⟩ := at_T55 (Kd.V_reads' HO_318000.out).2.2 x11_1 p320 q320
              cases e320
              replace p320 := eq_true p320
              replace q320 := eq_true q320
              obtain ⟨hcz20_0, hcz20_1, hfz20_0, hfz20_1⟩ := b2_ BK318.out
              go_wp2
              refine bodyPost_ret (results_ct rfl _ _ gb318 25 #[.slice (some ad320) l0_0.length c0_0, .slice A0_1 l0_1.length c0_1] (0, 0) _ rfl (kP_ BK318.out) Try.underlying25 rfl (by kernel_rfl)) rfl ?_
              exact ⟨_, _, r3_, (vF_ HO_318000.out), (vF_ HO_318001.out), beT_⟩
            rw [if_neg c17] at H
            have c17b0 : decide ((IntKind.u64.wrap (((rd_T55 l0_0 x11_1).f0) - a1)) < a2) = false := decide_eq_false c17
            clear c17
            have H' := Aside0.mk H
            clear H
            have hnb21 := NB317_318.out
            have hnc21 := NB318_317.out
            obtain ⟨hcz22_0, hcz22_1, hfz22_0, hfz22_1⟩ := b2_ BK317.out
            have p320 : 0 ≤ (x11_1 : Int) := dT_
            have q320 : x11_1 < (l0_0.length : Int) := dT_
            obtain ⟨ad320, e320, hx320_0, hx320_1⟩ := at_T55 (Kd.V_reads' HO_318000.out).2.2 x11_1 p320 q320
            cases e320
            replace p320 := eq_true p320
            replace q320 := eq_true q320
            go_wp2
            go_roundg k1
            case measure => have := HK1.out; omega
            case rel => exact ⟨(wrap64 (x11_1 + 1)), r1_, H', ⟨by have := HK1.out; omega⟩, ⟨vT_ HO_318000.out⟩, ⟨vT_ HO_318001.out⟩, ⟨bT_ BK317.out⟩, ⟨bT_ BK318.out⟩, ⟨beT_⟩⟩
          rw [if_neg c16] at H
          have c16b0 : decide (a1 ≤ ((rd_T55 l0_0 x11_1).f0)) = false := decide_eq_false c16
          clear c16
          have H' := Aside0.mk H
          clear H
          have hnb23 := NB317_318.out
          have hnc23 := NB318_317.out
          obtain ⟨hcz24_0, hcz24_1, hfz24_0, hfz24_1⟩ := b2_ BK317.out
          have p320 : 0 ≤ (x11_1 : Int) := dT_
          have q320 : x11_1 < (l0_0.length : Int) := dT_
          obtain ⟨ad320, e320, hx320_0, hx320_1⟩ := at_T55 (Kd.V_reads' HO_318000.out).2.2 x11_1 p320 q320
          cases e320
          replace p320 := eq_true p320
          replace q320 := eq_true q320
          go_wp2
          go_roundg k1
          case measure => have := HK1.out; omega
          case rel => exact ⟨(wrap64 (x11_1 + 1)), r1_, H', ⟨by have := HK1.out; omega⟩, ⟨vT_ HO_318000.out⟩, ⟨vT_ HO_318001.out⟩, ⟨bT_ BK317.out⟩, ⟨bT_ BK318.out⟩, ⟨beT_⟩⟩
        rw [if_neg c15] at H
        exact absurd H (by simp)
      rw [if_neg c14] at H
      have c14b0 : decide (x11_1 < (l0_0.length : Int)) = false := decide_eq_false c14
      clear c14
      by_cases c25 : a2 > (IntKind.u64.wrap (wrap64 (64 - (l0_0.length : Int))))
      · rw [if_pos c25] at H
        have c25b0 : decide ((IntKind.u64.wrap (wrap64 (64 - (l0_0.length : Int)))) < a2) = true := decide_eq_true c25
        clear c25
        simp only [Option.some.injEq, Prod.mk.injEq] at H
        obtain ⟨rfl, rfl, rfl⟩ := H
        have hnb26 := NB317_318.out
        have hnc26 := NB318_317.out
        obtain ⟨hcz27_0, hcz27_1, hfz27_0, hfz27_1⟩ := b2_ BK317.out
        obtain ⟨hcz28_0, hcz28_1, hfz28_0, hfz28_1⟩ := b2_ BK318.out
        go_wp2
        refine bodyPost_ret (results_ct rfl _ _ gb318 25 #[.slice A0_0 l0_0.length c0_0, .slice A0_1 l0_1.length c0_1] (0, 0) _ rfl (kP_ BK318.out) Try.underlying25 rfl (by kernel_rfl)) rfl ?_
        exact ⟨_, _, r3_, (vF_ HO_318000.out), (vF_ HO_318001.out), beT_⟩
      rw [if_neg c25] at H
      have c25b0 : decide ((IntKind.u64.wrap (wrap64 (64 - (l0_0.length : Int)))) < a2) = false := decide_eq_false c25
      clear c25
      have H' := Aside0.mk H
      clear H
      have hnb29 := NB317_318.out
      have hnc29 := NB318_317.out
      obtain ⟨hcz30_0, hcz30_1, hfz30_0, hfz30_1⟩ := b2_ BK317.out
      go_wp2
      go_loopg [10, 13, 14] k1 (fun kq v10 v13 v14 w' => ∃ (x10_2 : List (S55)) (x13_2 : Bool) (x14_2 : Int), v13 = .bool x13_2 ∧ v14 = .int .i64 x14_2 ∧ Aside0 (ferryref03_Map.l1 kq a1 a2 a3 x10_2 x13_2 x14_2 l0_0 l0_1 = some (r1, r2, r3)) ∧ Aside0 (kq ≤ k1) ∧ Aside0 (Kd.R k55 55 w' w.heap.size (fun k_ => (w.heap.size ≤ k_)) v10 x10_2) ∧ Aside0 (Kd.V k55 55 w' w.heap.size (fun k_ => ((P0_0_ k_ ∨ P0_1_ k_) ∨ w.heap.size ≤ k_) ∧ some k_ ≠ (v10 : Value).ownBlock ∧ k_ ≠ gb317 ∧ k_ ≠ gb318) (.slice A0_0 l0_0.length c0_0) l0_0) ∧ Aside0 (Kd.V k60 60 w' w.heap.size (fun k_ => ((P0_0_ k_ ∨ P0_1_ k_) ∨ w.heap.size ≤ k_) ∧ some k_ ≠ (v10 : Value).ownBlock ∧ k_ ≠ gb317 ∧ k_ ≠ gb318) (.slice A0_1 l0_1.length c0_1) l0_1) ∧ Aside0 (w'.heap[gb317]? = some (.cells #[(.slice A0_0 l0_0.length c0_0), (.slice A0_1 l0_1.length c0_1)] 25 (0, 0))) ∧ Aside0 (w'.heap[gb318]? = some (.cells #[(.slice none 0 0), (.slice none 0 0)] 25 (0, 0))) ∧ Aside0 (Below w.heap.size w w'))
      case atStart => exact ⟨(([] : List (S55))), (false), (0), r1_, r1_, H', ⟨Nat.le_refl _⟩, ⟨by first | exact Kd.R_nil _ _ _ _ _ | exact Kd.N_nil _ _ _ _ _ | exact Kd.V_nil _ _ _ _ _ | exact Kd.Q_nil _ _ _ _ _ | exact Kd.S_nil _ _ _ _ _⟩, ⟨vM_ HO_318000.out⟩, ⟨vM_ HO_318001.out⟩, ⟨bT_ BK317.out⟩, ⟨bT_ BK318.out⟩, ⟨beT_⟩⟩
      case round =>
        clear H'
        try clear c1
        try clear c2
        try clear p2
        try clear p3
        try clear q3
        try clear hx3
        try clear c4
        try clear c6
        try clear p6
        try clear c8
        try clear c9
        try clear c14
        try clear c14b0
        try clear c15
        try clear c15b0
        try clear c16
        try clear c16b0
        try clear c17
        try clear c17b0
        try clear c18
        try clear c21
        try clear c23
        try clear c25
        try clear c25b0
        try clear c26
        try clear c29
        try clear hcz10_0
        try clear hcz10_1
        try clear hcz11_0
        try clear hcz11_1
        try clear hcz19_0
        try clear hcz19_1
        try clear hcz20_0
        try clear hcz20_1
        try clear hcz22_0
        try clear hcz22_1
        try clear hcz24_0
        try clear hcz24_1
        try clear hcz27_0
        try clear hcz27_1
        try clear hcz28_0
        try clear hcz28_1
        try clear hcz30_0
        try clear hcz30_1
        try clear hfz10_0
        try clear hfz10_1
        try clear hfz11_0
        try clear hfz11_1
        try clear hfz19_0
        try clear hfz19_1
        try clear hfz20_0
        try clear hfz20_1
        try clear hfz22_0
        try clear hfz22_1
        try clear hfz24_0
        try clear hfz24_1
        try clear hfz27_0
        try clear hfz27_1
        try clear hfz28_0
        try clear hfz28_1
        try clear hfz30_0
        try clear hfz30_1
        try clear hx320_0
        try clear hx320_1
        try clear p2
        try clear p320
        try clear q320
        obtain ⟨x10_2, x13_2, x14_2, rfl, rfl, HA, HK2, HO_10, HO_318000, HO_318001, BK317, BK318, HB⟩ := hrel
        cases gk with
        | zero => exact absurd HA.out (by simp [ferryref03_Map.l1])
        | succ k2 =>
          have H := HA.out
          clear HA
          simp only [ferryref03_Map.l1] at H
          by_cases c31 : x14_2 ≤ (l0_0.length : Int)
          · rw [if_pos c31] at H
            have c31b0 : decide (x14_2 ≤ (l0_0.length : Int)) = true := decide_eq_true c31
            clear c31
            have HC32 := Aside0.mk H
            clear H
            have hnb33 := NB317_318.out
            have hnc33 := NB318_317.out
            obtain ⟨hcz34_0, hcz34_1, hfz34_0, hfz34_1⟩ := b2_ BK317.out
            go_upto_region 16 with (fail)
            go_cut [78] (fun v78 wc => ∃ (kq : Nat) (x78_31 : Bool), v78 = .bool x78_31 ∧ Aside0 (ferryref03_Map.j2 kq a1 a2 a3 x10_2 x13_2 x14_2 x78_31 l0_0 l0_1 = some (r1, r2, r3)) ∧ Aside0 (kq ≤ k2) ∧ Aside0 (Kd.R k55 55 wc w.heap.size (fun k_ => (w.heap.size ≤ k_)) u10 x10_2) ∧ Aside0 (Kd.V k55 55 wc w.heap.size (fun k_ => ((P0_0_ k_ ∨ P0_1_ k_) ∨ w.heap.size ≤ k_) ∧ some k_ ≠ (u10 : Value).ownBlock ∧ k_ ≠ gb317 ∧ k_ ≠ gb318) (.slice A0_0 l0_0.length c0_0) l0_0) ∧ Aside0 (Kd.V k60 60 wc w.heap.size (fun k_ => ((P0_0_ k_ ∨ P0_1_ k_) ∨ w.heap.size ≤ k_) ∧ some k_ ≠ (u10 : Value).ownBlock ∧ k_ ≠ gb317 ∧ k_ ≠ gb318) (.slice A0_1 l0_1.length c0_1) l0_1) ∧ Aside0 (wc.heap[gb317]? = some (.cells #[(.slice A0_0 l0_0.length c0_0), (.slice A0_1 l0_1.length c0_1)] 25 (0, 0))) ∧ Aside0 (wc.heap[gb318]? = some (.cells #[(.slice none 0 0), (.slice none 0 0)] 25 (0, 0))) ∧ Aside0 (Below w.heap.size w wc))
            case first =>
              have H := HC32.out
              clear HC32
              by_cases c35 : x13_2 = true
              · subst c35
                replace H := hP_ H
                have H' := Aside0.mk H
                clear H
                go_wp2
                go_meet
                case rel => exact ⟨_, (false), r1_, H', ⟨by have := HK1.out; have := HK2.out; first | omega | exact Nat.le_refl _⟩, ⟨rT_ HO_10.out⟩, ⟨vT_ HO_318000.out⟩, ⟨vT_ HO_318001.out⟩, ⟨bT_ BK317.out⟩, ⟨bT_ BK318.out⟩, ⟨beT_⟩⟩
              replace c35 := Bool.eq_false_iff.mpr c35
              subst c35
              replace H := hN_ H
              by_cases c36 : x14_2 = (l0_0.length : Int)
              · rw [if_pos c36] at H
                have c36b0 : (x14_2 == (l0_0.length : Int)) = true := beq_iff_eq.mpr c36
                have c36b1 : (x14_2 != (l0_0.length : Int)) = false := bne_eq_false_iff_eq.mpr c36
                clear c36
                (first | rw [c36b0] | (simp only [i64_w, i32_w]; rw [c36b0]) | skip)
                have H' := Aside0.mk H
                clear H
                have hnb37 := NB317_318.out
                have hnc37 := NB318_317.out
                obtain ⟨hcz38_0, hcz38_1, hfz38_0, hfz38_1⟩ := b2_ BK317.out
                go_wp2
                go_meet
                case rel => exact ⟨_, (true), r1_, H', ⟨by have := HK1.out; have := HK2.out; first | omega | exact Nat.le_refl _⟩, ⟨rT_ HO_10.out⟩, ⟨vT_ HO_318000.out⟩, ⟨vT_ HO_318001.out⟩, ⟨bT_ BK317.out⟩, ⟨bT_ BK318.out⟩, ⟨beT_⟩⟩
              rw [if_neg c36] at H
              have c36b0 : (x14_2 == (l0_0.length : Int)) = false := beq_eq_false_iff_ne.mpr c36
              have c36b1 : (x14_2 != (l0_0.length : Int)) = true := bne_iff_ne.mpr c36
              (first | rw [c36b0] | (simp only [i64_w, i32_w]; rw [c36b0]) | skip)
              by_cases c39 : 0 ≤ x14_2
              · rw [if_pos c39] at H
                have c39b0 : decide (0 ≤ x14_2) = true := decide_eq_true c39
                clear c39
                by_cases c40 : x14_2 < (l0_0.length : Int)
                · rw [if_pos c40] at H
                  have c40b0 : decide (x14_2 < (l0_0.length : Int)) = true := decide_eq_true c40
                  clear c40
                  have H' := Aside0.mk H
                  clear H
                  have hnb41 := NB317_318.out
                  have hnc41 := NB318_317.out
                  obtain ⟨hcz42_0, hcz42_1, hfz42_0, hfz42_1⟩ := b2_ BK317.out
                  have p321 : 0 ≤ (x14_2 : Int) := dT_
                  have q321 : x14_2 < (l0_0.length : Int) := dT_
                  obtain ⟨ad321, e321, hx321_0, hx321_1⟩ := at_T55 (Kd.V_reads' HO_318000.out).2.2 x14_2 p321 q321
                  cases e321
                  replace p321 := eq_true p321
                  replace q321 := eq_true q321
                  go_wp2
                  go_meet
                  case rel => exact ⟨_, (decide (((rd_T55 l0_0 x14_2).f0) > a1)), r1_, H', ⟨by have := HK1.out; have := HK2.out; first | omega | exact Nat.le_refl _⟩, ⟨rT_ HO_10.out⟩, ⟨vT_ HO_318000.out⟩, ⟨vT_ HO_318001.out⟩, ⟨bT_ BK317.out⟩, ⟨bT_ BK318.out⟩, ⟨beT_⟩⟩
                rw [if_neg c40] at H
                exact absurd H (by simp)
              rw [if_neg c39] at H
              exact absurd H (by simp)
            case rest =>
              clear HC32
              try clear c1
              try clear c2
              try clear p2
              try clear c3
              try clear p3
              try clear q3
              try clear hx3
              try clear c4
              try clear c6
              try clear p6
              try clear c8
              try clear c9
              try clear c14
              try clear c14b0
              try clear c15
              try clear c15b0
              try clear c16
              try clear c16b0
              try clear c17
              try clear c17b0
              try clear c18
              try clear c21
              try clear c23
              try clear c25
              try clear c25b0
              try clear c26
              try clear c29
              try clear c31
              try clear c31b0
              try clear p32
              try clear q32
              try clear hx32
              try clear c33
              try clear c35
              try clear c36
              try clear c36b0
              try clear c36b1
              try clear c37
              try clear c39
              try clear c39b0
              try clear c40
              try clear c40b0
              try clear c41
              try clear hcz10_0
              try clear hcz10_1
              try clear hcz11_0
              try clear hcz11_1
              try clear hcz19_0
              try clear hcz19_1
              try clear hcz20_0
              try clear hcz20_1
              try clear hcz22_0
              try clear hcz22_1
              try clear hcz24_0
              try clear hcz24_1
              try clear hcz27_0
              try clear hcz27_1
              try clear hcz28_0
              try clear hcz28_1
              try clear hcz30_0
              try clear hcz30_1
              try clear hcz34_0
              try clear hcz34_1
              try clear hcz38_0
              try clear hcz38_1
              try clear hcz42_0
              try clear hcz42_1
              try clear hfz10_0
              try clear hfz10_1
              try clear hfz11_0
              try clear hfz11_1
              try clear hfz19_0
              try clear hfz19_1
              try clear hfz20_0
              try clear hfz20_1
              try clear hfz22_0
              try clear hfz22_1
              try clear hfz24_0
              try clear hfz24_1
              try clear hfz27_0
              try clear hfz27_1
              try clear hfz28_0
              try clear hfz28_1
              try clear hfz30_0
              try clear hfz30_1
              try clear hfz34_0
              try clear hfz34_1
              try clear hfz38_0
              try clear hfz38_1
              try clear hfz42_0
              try clear hfz42_1
              try clear hx320_0
              try clear hx320_1
              try clear hx321_0
              try clear hx321_1
              try clear p2
              try clear p3
              try clear p320
              try clear p321
              try clear p6
              try clear q3
              try clear q320
              try clear q321
              obtain ⟨kq, x78_31, rfl, HA, HJ31, HO_10, HO_318000, HO_318001, BK317, BK318, HB⟩ := hcut
              cases kq with
              | zero => exact absurd HA.out (by simp [ferryref03_Map.j2])
              | succ kj31 =>
                have H := HA.out
                clear HA
                simp only [ferryref03_Map.j2] at H
                by_cases c43 : x78_31 = true
                · subst c43
                  replace H := hP_ H
                  have H' := Aside0.mk H
                  clear H
                  go_wp2
                  go_loopg [10, 15] kj31 (fun kq v10 v15 w' => ∃ (x10_4 : List (S55)) (x15_4 : Int), v15 = .int .u64 x15_4 ∧ Aside0 (ferryref03_Map.l2 kq a1 a2 a3 x10_4 x14_2 x15_4 l0_0 l0_1 = some (r1, r2, r3)) ∧ Aside0 (kq ≤ kj31) ∧ Aside0 (Kd.R k55 55 w' w.heap.size (fun k_ => (w.heap.size ≤ k_)) v10 x10_4) ∧ Aside0 (Kd.V k55 55 w' w.heap.size (fun k_ => ((P0_0_ k_ ∨ P0_1_ k_) ∨ w.heap.size ≤ k_) ∧ some k_ ≠ (v10 : Value).ownBlock ∧ k_ ≠ gb317 ∧ k_ ≠ gb318) (.slice A0_0 l0_0.length c0_0) l0_0) ∧ Aside0 (Kd.V k60 60 w' w.heap.size (fun k_ => ((P0_0_ k_ ∨ P0_1_ k_) ∨ w.heap.size ≤ k_) ∧ some k_ ≠ (v10 : Value).ownBlock ∧ k_ ≠ gb317 ∧ k_ ≠ gb318) (.slice A0_1 l0_1.length c0_1) l0_1) ∧ Aside0 (w'.heap[gb317]? = some (.cells #[(.slice A0_0 l0_0.length c0_0), (.slice A0_1 l0_1.length c0_1)] 25 (0, 0))) ∧ Aside0 (w'.heap[gb318]? = some (.cells #[(.slice none 0 0), (.slice none 0 0)] 25 (0, 0))) ∧ Aside0 (Below w.heap.size w w'))
                  case atStart => exact ⟨(x10_2), (0), r1_, H', ⟨Nat.le_refl _⟩, ⟨rT_ HO_10.out⟩, ⟨vT_ HO_318000.out⟩, ⟨vT_ HO_318001.out⟩, ⟨bT_ BK317.out⟩, ⟨bT_ BK318.out⟩, ⟨beT_⟩⟩
                  case round =>
                    clear H'
                    try clear c1
                    try clear c2
                    try clear p2
                    try clear c3
                    try clear p3
                    try clear q3
                    try clear hx3
                    try clear c4
                    try clear c6
                    try clear p6
                    try clear c8
                    try clear c9
                    try clear c14
                    try clear c14b0
                    try clear c15
                    try clear c15b0
                    try clear c16
                    try clear c16b0
                    try clear c17
                    try clear c17b0
                    try clear c18
                    try clear c21
                    try clear c23
                    try clear c25
                    try clear c25b0
                    try clear c26
                    try clear c29
                    try clear c31
                    try clear c31b0
                    try clear p32
                    try clear q32
                    try clear hx32
                    try clear c33
                    try clear c35
                    try clear c36
                    try clear c36b0
                    try clear c36b1
                    try clear c37
                    try clear c39
                    try clear c39b0
                    try clear c40
                    try clear c40b0
                    try clear c41
                    try clear c43
                    try clear hcz10_0
                    try clear hcz10_1
                    try clear hcz11_0
                    try clear hcz11_1
                    try clear hcz19_0
                    try clear hcz19_1
                    try clear hcz20_0
                    try clear hcz20_1
                    try clear hcz22_0
                    try clear hcz22_1
                    try clear hcz24_0
                    try clear hcz24_1
                    try clear hcz27_0
                    try clear hcz27_1
                    try clear hcz28_0
                    try clear hcz28_1
                    try clear hcz30_0
                    try clear hcz30_1
                    try clear hcz34_0
                    try clear hcz34_1
                    try clear hcz38_0
                    try clear hcz38_1
                    try clear hcz42_0
                    try clear hcz42_1
                    try clear hfz10_0
                    try clear hfz10_1
                    try clear hfz11_0
                    try clear hfz11_1
                    try clear hfz19_0
                    try clear hfz19_1
                    try clear hfz20_0
                    try clear hfz20_1
                    try clear hfz22_0
                    try clear hfz22_1
                    try clear hfz24_0
                    try clear hfz24_1
                    try clear hfz27_0
                    try clear hfz27_1
                    try clear hfz28_0
                    try clear hfz28_1
                    try clear hfz30_0
                    try clear hfz30_1
                    try clear hfz34_0
                    try clear hfz34_1
                    try clear hfz38_0
                    try clear hfz38_1
                    try clear hfz42_0
                    try clear hfz42_1
                    try clear hx320_0
                    try clear hx320_1
                    try clear hx321_0
                    try clear hx321_1
                    try clear p2
                    try clear p3
                    try clear p32
                    try clear p320
                    try clear p321
                    try clear p6
                    try clear q3
                    try clear q32
                    try clear q320
                    try clear q321
                    obtain ⟨x10_4, x15_4, rfl, HA, HK4, HO_10, HO_318000, HO_318001, BK317, BK318, HB⟩ := hrel
                    cases gk with
                    | zero => exact absurd HA.out (by simp [ferryref03_Map.l2])
                    | succ k4 =>
                      have H := HA.out
                      clear HA
                      simp only [ferryref03_Map.l2] at H
                      by_cases c44 : x15_4 < a2
                      · rw [if_pos c44] at H
                        have c44b0 : decide (x15_4 < a2) = true := decide_eq_true c44
                        clear c44
                        by_cases c45 : x10_4.length < 8796093022208
                        · rw [if_pos c45] at H
                          have LMc45 := Aside0.mk c45
                          clear c45
                          obtain ⟨y322, hy322⟩ : ∃ y_ : List (S55), y_ = (x10_4 ++ [(⟨IntKind.u64.wrap (a1 + x15_4), a3⟩ : S55)]) := ⟨_, rfl⟩
                          replace H : (ferryref03_Map.l2 k4 a1 a2 a3 y322 x14_2 (IntKind.u64.wrap (x15_4 + 1)) l0_0 l0_1) = some (r1, r2, r3) := by first | (rw [hy322]; with_reducible exact H) | (have H2_ := (Option.bind_some _ _).symm.trans H; rw [hy322]; with_reducible exact H2_) | (have H2_ := (Option.bind_some _ _).symm.trans H; with_reducible exact H2_) | with_reducible exact H | (rw [hy322]; exact H) | exact H
                          have Ny322 := Aside0.mk hy322
                          clear hy322
                          have H' := Aside0.mk H
                          clear H
                          go_wp2_with (first | ((with_reducible refine gate_builtin (b := .append) (xs := #[.tmp 84, .tmp 90]) rfl ?_); (try (refine gate_guard (by rfl) ?_; dsimp only)); at_builtin; refine Kd.R_append k55 (w0 := w) w.heap.size rfl (.tmp 84) (.tmp 90) 22 55 (.agg #[(.int .u64 0), (.int .i64 0)]) 16 rfl Try.underlying22 info55 rfl (by decide) (by omega) u10 x10_4 (⟨IntKind.u64.wrap (a1 + x15_4), a3⟩ : S55) [.int .u64 (IntKind.u64.wrap (a1 + x15_4)), .int .i64 a3] (fun k_ => (w.heap.size ≤ k_)) (fun _ => False) rfl rfl ?aP (fun _ hk => hk.elim) ?aF ?aO ?aB ?aS ?aL ?_; (case aP => exact k55_mkM _ _ _ (⟨IntKind.u64.wrap (a1 + x15_4), a3⟩ : S55)); (case aB => exact beT_); (case aF => exact (fun k_ hk => (Nat.le_trans (below_size beT_) hk))); (case aO => exact (rT_ HO_10.out)); (case aS => exact (below_size beT_)); (case aL => have := LMc45.out; omega); intro v323 w46 ho hb hg hat; rw [← Ny322.out] at ho; have HO324 := Aside0.mk ho; replace HO_318000 := Aside0.mk (Kd.V_afterv (ok := (fun k_ => ((P0_0_ k_ ∨ P0_1_ k_) ∨ w.heap.size ≤ k_) ∧ k_ ≠ gb317 ∧ k_ ≠ gb318)) (vM_ HO_318000.out) hg hat); replace HO_318001 := Aside0.mk (Kd.V_afterv (ok := (fun k_ => ((P0_0_ k_ ∨ P0_1_ k_) ∨ w.heap.size ≤ k_) ∧ k_ ≠ gb317 ∧ k_ ≠ gb318)) (vM_ HO_318001.out) hg hat); replace BK317 := kG_ BK317.out hg (Kd.R_ne HO_10.out BK317.out (by decide)); replace BK318 := kG_ BK318.out hg (Kd.R_ne HO_10.out BK318.out (by decide)); replace HB := Aside0.mk hb; clear HO_10; clear ho hb hg hat))
                          go_roundg k4
                          case measure => have := HK1.out; have := HK2.out; have := HJ31.out; have := HK4.out; omega
                          case rel => exact ⟨(y322), (IntKind.u64.wrap (x15_4 + 1)), r1_, H', ⟨by have := HK1.out; have := HK2.out; have := HJ31.out; have := HK4.out; omega⟩, ⟨rT_ HO324.out⟩, ⟨vM_ HO_318000.out⟩, ⟨vM_ HO_318001.out⟩, ⟨bT_ BK317.out⟩, ⟨bT_ BK318.out⟩, ⟨beT_⟩⟩
                        rw [if_neg c45] at H
                        exact absurd H (by simp)
                      rw [if_neg c44] at H
                      have c44b0 : decide (x15_4 < a2) = false := decide_eq_false c44
                      clear c44
                      by_cases c47 : x14_2 < (l0_0.length : Int)
                      · rw [if_pos c47] at H
                        have c47b0 : decide (x14_2 < (l0_0.length : Int)) = true := decide_eq_true c47
                        clear c47
                        by_cases c48 : 0 ≤ x14_2
                        · rw [if_pos c48] at H
                          have c48b0 : decide (0 ≤ x14_2) = true := decide_eq_true c48
                          clear c48
                          by_cases c49 : x10_4.length < 8796093022208
                          · rw [if_pos c49] at H
                            have LMc49 := Aside0.mk c49
                            clear c49
                            obtain ⟨y326, hy326⟩ : ∃ y_ : List (S55), y_ = (x10_4 ++ [(⟨(rd_T55 l0_0 x14_2).f0, (rd_T55 l0_0 x14_2).f1⟩ : S55)]) := ⟨_, rfl⟩
                            replace H : (ferryref03_Map.l1 k4 a1 a2 a3 y326 true (wrap64 (x14_2 + 1)) l0_0 l0_1) = some (r1, r2, r3) := by first | (rw [hy326]; with_reducible exact H) | (have H2_ := (Option.bind_some _ _).symm.trans H; rw [hy326]; with_reducible exact H2_) | (have H2_ := (Option.bind_some _ _).symm.trans H; with_reducible exact H2_) | with_reducible exact H | (rw [hy326]; exact H) | exact H
                            have Ny326 := Aside0.mk hy326
                            clear hy326
                            have H' := Aside0.mk H
                            clear H
                            have hnb50 := NB317_318.out
                            have hnc50 := NB318_317.out
                            obtain ⟨hcz51_0, hcz51_1, hfz51_0, hfz51_1⟩ := b2_ BK317.out
                            have p325 : 0 ≤ (x14_2 : Int) := dT_
                            have q325 : x14_2 < (l0_0.length : Int) := dT_
                            obtain ⟨ad325, e325, hx325_0, hx325_1⟩ := at_T55 (Kd.V_reads' HO_318000.out).2.2 x14_2 p325 q325
                            cases e325
                            replace p325 := eq_true p325
                            replace q325 := eq_true q325
                            go_wp2_with (first | ((with_reducible refine gate_builtin (b := .append) (xs := #[.tmp 97, .tmp 103]) rfl ?_); (try (refine gate_guard (by rfl) ?_; dsimp only)); at_builtin; refine Kd.R_append k55 (w0 := w) w.heap.size rfl (.tmp 97) (.tmp 103) 22 55 (.agg #[(.int .u64 0), (.int .i64 0)]) 16 rfl Try.underlying22 info55 rfl (by decide) (by omega) u10 x10_4 (⟨(rd_T55 l0_0 x14_2).f0, (rd_T55 l0_0 x14_2).f1⟩ : S55) [.int .u64 ((rd_T55 l0_0 x14_2).f0), .int .i64 ((rd_T55 l0_0 x14_2).f1)] (fun k_ => (w.heap.size ≤ k_)) (fun _ => False) rfl rfl ?aP (fun _ hk => hk.elim) ?aF ?aO ?aB ?aS ?aL ?_; (case aP => exact k55_mkM _ _ _ (⟨(rd_T55 l0_0 x14_2).f0, (rd_T55 l0_0 x14_2).f1⟩ : S55)); (case aB => exact beT_); (case aF => exact (fun k_ hk => (Nat.le_trans (below_size beT_) hk))); (case aO => exact (rT_ HO_10.out)); (case aS => exact (below_size beT_)); (case aL => have := LMc49.out; omega); intro v327 w52 ho hb hg hat; rw [← Ny326.out] at ho; have HO328 := Aside0.mk ho; replace HO_318000 := Aside0.mk (Kd.V_afterv (ok := (fun k_ => ((P0_0_ k_ ∨ P0_1_ k_) ∨ w.heap.size ≤ k_) ∧ k_ ≠ gb317 ∧ k_ ≠ gb318)) (vM_ HO_318000.out) hg hat); replace HO_318001 := Aside0.mk (Kd.V_afterv (ok := (fun k_ => ((P0_0_ k_ ∨ P0_1_ k_) ∨ w.heap.size ≤ k_) ∧ k_ ≠ gb317 ∧ k_ ≠ gb318)) (vM_ HO_318001.out) hg hat); replace BK317 := kG_ BK317.out hg (Kd.R_ne HO_10.out BK317.out (by decide)); replace BK318 := kG_ BK318.out hg (Kd.R_ne HO_10.out BK318.out (by decide)); replace HB := Aside0.mk hb; clear HO_10; clear ho hb hg hat))
                            go_roundg k4
                            case measure => have := HK1.out; have := HK2.out; have := HJ31.out; have := HK4.out; omega
                            case rel => exact ⟨(y326), (true), (wrap64 (x14_2 + 1)), r1_, r1_, H', ⟨by have := HK1.out; have := HK2.out; have := HJ31.out; have := HK4.out; omega⟩, ⟨rT_ HO328.out⟩, ⟨vM_ HO_318000.out⟩, ⟨vM_ HO_318001.out⟩, ⟨bT_ BK317.out⟩, ⟨bT_ BK318.out⟩, ⟨beT_⟩⟩
                          rw [if_neg c49] at H
                          exact absurd H (by simp)
                        rw [if_neg c48] at H
                        exact absurd H (by simp)
                      rw [if_neg c47] at H
                      have c47b0 : decide (x14_2 < (l0_0.length : Int)) = false := decide_eq_false c47
                      clear c47
                      have H' := Aside0.mk H
                      clear H
                      have hnb53 := NB317_318.out
                      have hnc53 := NB318_317.out
                      obtain ⟨hcz54_0, hcz54_1, hfz54_0, hfz54_1⟩ := b2_ BK317.out
                      go_wp2
                      go_roundg k4
                      case measure => have := HK1.out; have := HK2.out; have := HJ31.out; have := HK4.out; omega
                      case rel => exact ⟨(x10_4), (true), (wrap64 (x14_2 + 1)), r1_, r1_, H', ⟨by have := HK1.out; have := HK2.out; have := HJ31.out; have := HK4.out; omega⟩, ⟨rT_ HO_10.out⟩, ⟨vT_ HO_318000.out⟩, ⟨vT_ HO_318001.out⟩, ⟨bT_ BK317.out⟩, ⟨bT_ BK318.out⟩, ⟨beT_⟩⟩
                replace c43 := Bool.eq_false_iff.mpr c43
                subst c43
                replace H := hN_ H
                by_cases c55 : x14_2 < (l0_0.length : Int)
                · rw [if_pos c55] at H
                  have c55b0 : decide (x14_2 < (l0_0.length : Int)) = true := decide_eq_true c55
                  clear c55
                  by_cases c56 : 0 ≤ x14_2
                  · rw [if_pos c56] at H
                    have c56b0 : decide (0 ≤ x14_2) = true := decide_eq_true c56
                    clear c56
                    by_cases c57 : x10_2.length < 8796093022208
                    · rw [if_pos c57] at H
                      have LMc57 := Aside0.mk c57
                      clear c57
                      obtain ⟨y330, hy330⟩ : ∃ y_ : List (S55), y_ = (x10_2 ++ [(⟨(rd_T55 l0_0 x14_2).f0, (rd_T55 l0_0 x14_2).f1⟩ : S55)]) := ⟨_, rfl⟩
                      replace H : (ferryref03_Map.l1 kj31 a1 a2 a3 y330 x13_2 (wrap64 (x14_2 + 1)) l0_0 l0_1) = some (r1, r2, r3) := by first | (rw [hy330]; with_reducible exact H) | (have H2_ := (Option.bind_some _ _).symm.trans H; rw [hy330]; with_reducible exact H2_) | (have H2_ := (Option.bind_some _ _).symm.trans H; with_reducible exact H2_) | with_reducible exact H | (rw [hy330]; exact H) | exact H
                      have Ny330 := Aside0.mk hy330
                      clear hy330
                      have H' := Aside0.mk H
                      clear H
                      have hnb58 := NB317_318.out
                      have hnc58 := NB318_317.out
                      obtain ⟨hcz59_0, hcz59_1, hfz59_0, hfz59_1⟩ := b2_ BK317.out
                      have p329 : 0 ≤ (x14_2 : Int) := dT_
                      have q329 : x14_2 < (l0_0.length : Int) := dT_
                      obtain ⟨ad329, e329, hx329_0, hx329_1⟩ := at_T55 (Kd.V_reads' HO_318000.out).2.2 x14_2 p329 q329
                      cases e329
                      replace p329 := eq_true p329
                      replace q329 := eq_true q329
                      go_wp2_with (first | ((with_reducible refine gate_builtin (b := .append) (xs := #[.tmp 97, .tmp 103]) rfl ?_); (try (refine gate_guard (by rfl) ?_; dsimp only)); at_builtin; refine Kd.R_append k55 (w0 := w) w.heap.size rfl (.tmp 97) (.tmp 103) 22 55 (.agg #[(.int .u64 0), (.int .i64 0)]) 16 rfl Try.underlying22 info55 rfl (by decide) (by omega) u10 x10_2 (⟨(rd_T55 l0_0 x14_2).f0, (rd_T55 l0_0 x14_2).f1⟩ : S55) [.int .u64 ((rd_T55 l0_0 x14_2).f0), .int .i64 ((rd_T55 l0_0 x14_2).f1)] (fun k_ => (w.heap.size ≤ k_)) (fun _ => False) rfl rfl ?aP (fun _ hk => hk.elim) ?aF ?aO ?aB ?aS ?aL ?_; (case aP => exact k55_mkM _ _ _ (⟨(rd_T55 l0_0 x14_2).f0, (rd_T55 l0_0 x14_2).f1⟩ : S55)); (case aB => exact beT_); (case aF => exact (fun k_ hk => (Nat.le_trans (below_size beT_) hk))); (case aO => exact (rT_ HO_10.out)); (case aS => exact (below_size beT_)); (case aL => have := LMc57.out; omega); intro v331 w60 ho hb hg hat; rw [← Ny330.out] at ho; have HO332 := Aside0.mk ho; replace HO_318000 := Aside0.mk (Kd.V_afterv (ok := (fun k_ => ((P0_0_ k_ ∨ P0_1_ k_) ∨ w.heap.size ≤ k_) ∧ k_ ≠ gb317 ∧ k_ ≠ gb318)) (vM_ HO_318000.out) hg hat); replace HO_318001 := Aside0.mk (Kd.V_afterv (ok := (fun k_ => ((P0_0_ k_ ∨ P0_1_ k_) ∨ w.heap.size ≤ k_) ∧ k_ ≠ gb317 ∧ k_ ≠ gb318)) (vM_ HO_318001.out) hg hat); replace BK317 := kG_ BK317.out hg (Kd.R_ne HO_10.out BK317.out (by decide)); replace BK318 := kG_ BK318.out hg (Kd.R_ne HO_10.out BK318.out (by decide)); replace HB := Aside0.mk hb; clear HO_10; clear ho hb hg hat))
                      go_roundg kj31
                      case measure => have := HK1.out; have := HK2.out; have := HJ31.out; omega
                      case rel => exact ⟨(y330), (x13_2), (wrap64 (x14_2 + 1)), r1_, r1_, H', ⟨by have := HK1.out; have := HK2.out; have := HJ31.out; omega⟩, ⟨rT_ HO332.out⟩, ⟨vM_ HO_318000.out⟩, ⟨vM_ HO_318001.out⟩, ⟨bT_ BK317.out⟩, ⟨bT_ BK318.out⟩, ⟨beT_⟩⟩
                    rw [if_neg c57] at H
                    exact absurd H (by simp)
                  rw [if_neg c56] at H
                  exact absurd H (by simp)
                rw [if_neg c55] at H
                have c55b0 : decide (x14_2 < (l0_0.length : Int)) = false := decide_eq_false c55
                clear c55
                have H' := Aside0.mk H
                clear H
                have hnb61 := NB317_318.out
                have hnc61 := NB318_317.out
                obtain ⟨hcz62_0, hcz62_1, hfz62_0, hfz62_1⟩ := b2_ BK317.out
                go_wp2
                go_roundg kj31
                case measure => have := HK1.out; have := HK2.out; have := HJ31.out; omega
                case rel => exact ⟨(x10_2), (x13_2), (wrap64 (x14_2 + 1)), r1_, r1_, H', ⟨by have := HK1.out; have := HK2.out; have := HJ31.out; omega⟩, ⟨rT_ HO_10.out⟩, ⟨vT_ HO_318000.out⟩, ⟨vT_ HO_318001.out⟩, ⟨bT_ BK317.out⟩, ⟨bT_ BK318.out⟩, ⟨beT_⟩⟩
          rw [if_neg c31] at H
          have c31b0 : decide (x14_2 ≤ (l0_0.length : Int)) = false := decide_eq_false c31
          clear c31
          simp only [Option.some.injEq, Prod.mk.injEq] at H
          obtain ⟨rfl, rfl, rfl⟩ := H
          have hnb63 := NB317_318.out
          have hnc63 := NB318_317.out
          obtain ⟨hcz64_0, hcz64_1, hfz64_0, hfz64_1⟩ := b2_ BK317.out
          obtain ⟨Ao65, co65, eo65⟩ := Kd.R_slice HO_10.out
          subst eo65
          obtain ⟨hcz66_0, hcz66_1, hfz66_0, hfz66_1⟩ := b2_ BK318.out
          go_wp2
          refine bodyPost_ret (results_ct rfl _ _ gb318 25 #[.slice Ao65 x10_2.length co65, .slice A0_1 l0_1.length c0_1] (0, 0) _ rfl (kP_ BK318.out) Try.underlying25 rfl (by kernel_rfl)) rfl ?_
          exact ⟨_, _, r3_, Kd.V_mono (Kd.R_V (by (with_reducible repeat (first | apply Kd.R_alloc | apply Kd.R_drewN | apply Kd.R_drew)); exact Kd.R_far (p := ⟨gb318, 1, none⟩) (Kd.R_far (p := ⟨gb318, 0, none⟩) (Kd.R_far (p := ⟨gb317, 0, none⟩) (Kd.R_types (Kd.R_types HO_10.out BK317.out (by decide)) BK318.out (by decide)) (fun _ hk => hk.1.2) (.slice Ao65 x10_2.length co65)) (fun _ hk => hk.2) (.slice Ao65 x10_2.length co65)) (fun _ hk => hk.2) (.slice A0_1 l0_1.length c0_1))) (fun k_ hk => by exact .inr hk.1.1), (vF_ HO_318001.out), beT_⟩

end Go.Proofs.Ytjhfglpgpicmiaa.F
end
