import Derived.Test.YtjhfglpgpicmiaaVZF0
import Derived.Test.YtjhfglpgpicmiaaVA5
import Derived.Test.YtjhfglpgpicmiaaVA11
import Derived.Test.YtjhfglpgpicmiaaVA14
section
namespace Go.Proofs.Ytjhfglpgpicmiaa.F
open Go.RowKit Go.Proofs.YtjhfglpgpicmiaaW.PrintWords Go.Proofs.YtjhfglpgpicmiaaW.PrintLast Go.Proofs.YtjhfglpgpicmiaaW.PrintMore
attribute [local go_sem] max2_int min2_int max_two min_two max_three min_three max_four min_four
attribute [local go_sem] cell_twice
set_option linter.unusedVariables false
set_option linter.unusedSimpArgs false

mutual
def ferryref03_Clear.l0 : Nat → Int → Int → List (S60) → Int → List (S55) → List (S60) → Option ((List (S55)) × (List (S60)))
  | 0, _, _, _, _, _, _ => none
  | k + 1, x1, x2, x7, x8, x334000, x334001 => if x8 < (x334001.length : Int) then (if 0 ≤ x8 then (ferryref03_Clear.l1 k x1 x2 x7 x8 0 x334000 x334001 ((rd_T60 x334001 x8).f0) ((rd_T60 x334001 x8).f1)) else (none)) else (some (x334000, x7))
def ferryref03_Clear.l1 : Nat → Int → Int → List (S60) → Int → Int → List (S55) → List (S60) → Int → Int → Option ((List (S55)) × (List (S60)))
  | 0, _, _, _, _, _, _, _, _, _ => none
  | k + 1, x1, x2, x7, x8, x10, x334000, x334001, x337000, x337001 => if x10 < 8 then ((ferryref03_inside.f (IntKind.u64.wrap (x337000 + x10)) x1 x2).bind fun t337 => (if t337 = true then (if 0 ≤ (IntKind.u64.wrap (8 * x10)) then (ferryref03_Clear.l1 k x1 x2 x7 x8 (IntKind.u64.wrap (x10 + 1)) x334000 x334001 x337000 (Go.bits .andNot .u64 x337001 (shl .u64 255 (IntKind.u64.wrap (8 * x10))))) else (none)) else (ferryref03_Clear.l1 k x1 x2 x7 x8 (IntKind.u64.wrap (x10 + 1)) x334000 x334001 x337000 x337001))) else (if x337001 = 0 then (ferryref03_Clear.l0 k x1 x2 x7 (wrap64 (x8 + 1)) x334000 x334001) else (if x7.length < 8796093022208 then (ferryref03_Clear.l0 k x1 x2 (x7 ++ [(⟨x337000, x337001⟩ : S60)]) (wrap64 (x8 + 1)) x334000 x334001) else (none)))
end
def ferryref03_Clear.f (k : Nat) (l0_0 : List (S55)) (l0_1 : List (S60)) (a1 : Int) (a2 : Int) : Option ((List (S55)) × (List (S60))) := ferryref03_Clear.l0 k a1 a2 ([] : List (S60)) 0 l0_0 l0_1
theorem ferryref03_Clear.mono_l : ∀ k, (∀ y0 y1 y2 y3 y4 y5, LeO (ferryref03_Clear.l0 k y0 y1 y2 y3 y4 y5) (ferryref03_Clear.l0 (k + 1) y0 y1 y2 y3 y4 y5)) ∧ (∀ y0 y1 y2 y3 y4 y5 y6 y7 y8, LeO (ferryref03_Clear.l1 k y0 y1 y2 y3 y4 y5 y6 y7 y8) (ferryref03_Clear.l1 (k + 1) y0 y1 y2 y3 y4 y5 y6 y7 y8))
  | 0 => ⟨fun _ _ _ _ _ _ r h => by simp [ferryref03_Clear.l0] at h, fun _ _ _ _ _ _ _ _ _ r h => by simp [ferryref03_Clear.l1] at h⟩
  | k + 1 => by
    obtain ⟨ih0, ih1⟩ := ferryref03_Clear.mono_l k
    refine ⟨?_, ?_⟩
    · intro y0 y1 y2 y3 y4 y5
      unfold ferryref03_Clear.l0
      exact moT_
    · intro y0 y1 y2 y3 y4 y5 y6 y7 y8
      unfold ferryref03_Clear.l1
      exact moT_
theorem ferryref03_Clear.mono : ∀ a0 a1 a2 a3 k, LeO (ferryref03_Clear.f k a0 a1 a2 a3) (ferryref03_Clear.f (k + 1) a0 a1 a2 a3) := by
  intro a0 a1 a2 a3 k
  obtain ⟨ih0, ih1⟩ := ferryref03_Clear.mono_l k
  unfold ferryref03_Clear.f
  exact moT_
set_option maxHeartbeats 8000000 in
set_option maxRecDepth 100000 in
theorem ferryref03_Clear.calls (k : Nat) (P0_0_ : Nat → Prop) (A0_0 : Option Addr) (c0_0 : Nat) (l0_0 : List (S55)) (A0_1 : Option Addr) (c0_1 : Nat) (l0_1 : List (S60)) (a1 : Int) (a2 : Int) (r1 : List (S55)) (r2 : List (S60)) (w : World) (hs0_0 : Kd.V k55 55 w w.heap.size (fun k_ => P0_0_ k_) (.slice A0_0 l0_0.length c0_0) l0_0) (hr0_1 : Kd.C k60 w A0_1 l0_1.length l0_1) (hc0_1 : l0_1.length ≤ c0_1) (h : ferryref03_Clear.f k l0_0 l0_1 a1 a2 = some (r1, r2)) :
    Calls Try.prog 45 #[.agg #[.slice A0_0 l0_0.length c0_0, .slice A0_1 l0_1.length c0_1], .int .u64 a1, .int .u64 a2] w fun e w' => ∃ v0_ v1_ : Value, e = .returned (.agg #[v0_, v1_]) ∧ Kd.V k55 55 w' w.heap.size (fun k_ => (P0_0_ k_ ∨ w.heap.size ≤ k_) ∧ some k_ ≠ (v1_ : Value).ownBlock) v0_ r1 ∧ Kd.R k60 60 w' w.heap.size (fun k_ => (w.heap.size ≤ k_)) v1_ r2 ∧ Below w.heap.size w w' := by
  have hu25 := Try.underlying25
  have hu60 := Try.underlying60
  have HO0_0 := Aside0.mk (show Kd.V k55 55 w w.heap.size (fun k_ => (P0_0_ k_ ∨ w.heap.size ≤ k_)) (.slice A0_0 l0_0.length c0_0) l0_0 from Kd.V_mono hs0_0 (fun k_ hk => .inl hk))
  have HR0_1 := Aside0.mk hr0_1
  have HC0_1 := Aside0.mk hc0_1
  clear hr0_1 hc0_1
  have HB := Aside0.mk (Below.refl w.heap.size w)
  have H : (ferryref03_Clear.l0 k a1 a2 ([] : List (S60)) 0 l0_0 l0_1) = some (r1, r2) := h
  clear h
  have H' := Aside0.mk H
  clear H
  go_enter Try.func45, Try.ntmps45
  go_wp2_with (first | ((with_reducible refine gate_dst (N := 3) rfl ?_); refine bE_ 3 #[.slice A0_0 l0_0.length c0_0, .slice A0_1 l0_1.length c0_1] 25 ?_; intro gb333 hg w4 hbox hb; have BK333 := Aside0.mk hbox; have GW333 := geT_ w.heap.size hg; have GE333 := geT_ w.heap.size hg; replace HO0_0 := vE_ HO0_0.out hg hb; replace HB := hB_ hb; clear hb hbox hg) | ((with_reducible refine gate_dst (N := 6) rfl ?_); refine bE_ 6 #[.slice none 0 0, .slice none 0 0] 25 ?_; intro gb334 hg w5 hbox hb; have BK334 := Aside0.mk hbox; have GW334 := geT_ w.heap.size hg; have GE334 := geT_ w.heap.size hg; have NB333_334 := nlT_ BK333.out hg; have NB334_333 := ngT_ BK333.out hg; replace HO0_0 := vE_ HO0_0.out hg hb; replace BK333 := kB_ BK333 hb; replace HB := hB_ hb; clear hb hbox hg))
  go_loopg [7, 8] k (fun kq v7 v8 w' => ∃ (x7_1 : List (S60)) (x8_1 : Int), v8 = .int .i64 x8_1 ∧ Aside0 (ferryref03_Clear.l0 kq a1 a2 x7_1 x8_1 l0_0 l0_1 = some (r1, r2)) ∧ Aside0 (kq ≤ k) ∧ Aside0 (Kd.R k60 60 w' w.heap.size (fun k_ => (w.heap.size ≤ k_)) v7 x7_1) ∧ Aside0 (Kd.V k55 55 w' w.heap.size (fun k_ => (P0_0_ k_ ∨ w.heap.size ≤ k_) ∧ some k_ ≠ (v7 : Value).ownBlock ∧ k_ ≠ gb333 ∧ k_ ≠ gb334) (.slice A0_0 l0_0.length c0_0) l0_0) ∧ Aside0 (w'.heap[gb333]? = some (.cells #[(.slice A0_0 l0_0.length c0_0), (.slice A0_1 l0_1.length c0_1)] 25 (0, 0))) ∧ Aside0 (w'.heap[gb334]? = some (.cells #[(.slice none 0 0), (.slice none 0 0)] 25 (0, 0))) ∧ Aside0 (Below w.heap.size w w'))
  case atStart => exact ⟨(([] : List (S60))), (0), r1_, H', ⟨Nat.le_refl _⟩, ⟨by first | exact Kd.R_nil _ _ _ _ _ | exact Kd.N_nil _ _ _ _ _ | exact Kd.V_nil _ _ _ _ _ | exact Kd.Q_nil _ _ _ _ _ | exact Kd.S_nil _ _ _ _ _⟩, ⟨vM_ HO0_0.out⟩, ⟨bT_ BK333.out⟩, ⟨bT_ BK334.out⟩, ⟨beT_⟩⟩
  case round =>
    clear H'
    try clear p2
    try clear c4
    obtain ⟨x7_1, x8_1, rfl, HA, HK1, HO_7, HO_334000, BK333, BK334, HB⟩ := hrel
    cases gk with
    | zero => exact absurd HA.out (by simp [ferryref03_Clear.l0])
    | succ k1 =>
      have H := HA.out
      clear HA
      simp only [ferryref03_Clear.l0] at H
      by_cases c6 : x8_1 < (l0_1.length : Int)
      · rw [if_pos c6] at H
        have c6b0 : decide (x8_1 < (l0_1.length : Int)) = true := decide_eq_true c6
        clear c6
        by_cases c7 : 0 ≤ x8_1
        · rw [if_pos c7] at H
          have c7b0 : decide (0 ≤ x8_1) = true := decide_eq_true c7
          clear c7
          have H' := Aside0.mk H
          clear H
          have hnb8 := NB333_334.out
          have hnc8 := NB334_333.out
          obtain ⟨hcz9_0, hcz9_1, hfz9_0, hfz9_1⟩ := b2_ BK333.out
          have p335 : 0 ≤ (x8_1 : Int) := dT_
          have q335 : x8_1 < (l0_1.length : Int) := dT_
          obtain ⟨ad335, e335, hx335_0, hx335_1⟩ := at_T60 HR0_1.out x8_1 p335 q335
          cases e335
          replace hx335_0 := hX_ hx335_0
          replace hx335_1 := hX_ hx335_1
          replace p335 := eq_true p335
          replace q335 := eq_true q335
          go_wp2_with (first | ((with_reducible refine gate_dst (N := 9) rfl ?_); refine bE_ 9 #[.int .u64 0, .int .u64 0] 60 ?_; intro gb336 hg w10 hbox hb; have BK336 := Aside0.mk hbox; have GW336 := geT_ w.heap.size hg; have GE336 := geT_ w.heap.size hg; have NB333_336 := nlT_ BK333.out hg; have NB336_333 := ngT_ BK333.out hg; have NB334_336 := nlT_ BK334.out hg; have NB336_334 := ngT_ BK334.out hg; replace HO_7 := rE_ HO_7.out hg hb; replace HO_334000 := vE_ HO_334000.out hg hb; replace BK333 := kB_ BK333 hb; replace BK334 := kB_ BK334 hb; replace HB := hB_ hb; clear hb hbox hg; have hnb11 := NB336_333.out; have hnc11 := NB333_336.out; have hnb12 := NB336_334.out; have hnc12 := NB334_336.out; obtain ⟨hcz13_0, hcz13_1, hfz13_0, hfz13_1⟩ := b2_ BK336.out))
          go_loopg [10] k1 (fun kq v10 w' => ∃ (x10_2 : Int) (x337001_2 : Int), v10 = .int .u64 x10_2 ∧ Aside0 (ferryref03_Clear.l1 kq a1 a2 x7_1 x8_1 x10_2 l0_0 l0_1 ((rd_T60 l0_1 x8_1).f0) x337001_2 = some (r1, r2)) ∧ Aside0 (kq ≤ k1) ∧ Aside0 (Kd.R k60 60 w' w.heap.size (fun k_ => (w.heap.size ≤ k_) ∧ k_ ≠ gb336) u7 x7_1) ∧ Aside0 (Kd.V k55 55 w' w.heap.size (fun k_ => (P0_0_ k_ ∨ w.heap.size ≤ k_) ∧ some k_ ≠ (u7 : Value).ownBlock ∧ k_ ≠ gb333 ∧ k_ ≠ gb334 ∧ k_ ≠ gb336) (.slice A0_0 l0_0.length c0_0) l0_0) ∧ Aside0 (w'.heap[gb333]? = some (.cells #[(.slice A0_0 l0_0.length c0_0), (.slice (some ad335) l0_1.length c0_1)] 25 (0, 0))) ∧ Aside0 (w'.heap[gb334]? = some (.cells #[(.slice none 0 0), (.slice none 0 0)] 25 (0, 0))) ∧ Aside0 (w'.heap[gb336]? = some (.cells #[.int .u64 ((rd_T60 l0_1 x8_1).f0), .int .u64 x337001_2] 60 (0, 0))) ∧ Aside0 (Below w.heap.size w w'))
          case atStart => exact ⟨(0), ((rd_T60 l0_1 x8_1).f1), r1_, H', ⟨Nat.le_refl _⟩, ⟨rF_ HO_7.out⟩, ⟨vF_ HO_334000.out⟩, ⟨bfT_ BK333.out⟩, ⟨bfT_ BK334.out⟩, ⟨kP_ BK336.out⟩, ⟨beT_⟩⟩
          case round =>
            clear H'
            try clear c1
            try clear p2
            try clear p3
            try clear q3
            try clear hx3
            try clear c4
            try clear c6
            try clear c6b0
            try clear c7
            try clear c7b0
            try clear c8
            try clear c11
            try clear c12
            try clear hcz13_0
            try clear hcz13_1
            try clear hcz9_0
            try clear hcz9_1
            try clear hfz13_0
            try clear hfz13_1
            try clear hfz9_0
            try clear hfz9_1
            try clear hx335_0
            try clear hx335_1
            try clear p2
            try clear p335
            try clear q335
            obtain ⟨x10_2, x337001_2, rfl, HA, HK2, HO_7, HO_334000, BK333, BK334, BK336, HB⟩ := hrel
            cases gk with
            | zero => exact absurd HA.out (by simp [ferryref03_Clear.l1])
            | succ k2 =>
              have H := HA.out
              clear HA
              simp only [ferryref03_Clear.l1] at H
              by_cases c14 : x10_2 < 8
              · rw [if_pos c14] at H
                have c14b0 : decide (x10_2 < 8) = true := decide_eq_true c14
                clear c14
                replace H := Option.bind_eq_some_iff.mp H
                obtain ⟨t337, A150, H⟩ := H
                have A15 := Aside0.mk A150
                clear A150
                by_cases c16 : t337 = true
                · subst c16
                  replace H := hP_ H
                  obtain ⟨ji17, hji17⟩ : ∃ j_ : Int, (IntKind.u64.wrap (8 * x10_2)) = j_ := ⟨_, rfl⟩
                  replace H : (if 0 ≤ (ji17) then (ferryref03_Clear.l1 k2 a1 a2 x7_1 x8_1 (IntKind.u64.wrap (x10_2 + 1)) l0_0 l0_1 ((rd_T60 l0_1 x8_1).f0) (Go.bits .andNot .u64 x337001_2 (shl .u64 255 (ji17)))) else (none)) = some (r1, r2) := by first | (rw [hji17] at H; exact H) | (simp only [hji17] at H ⊢; exact H)
                  (try rw [hji17] at A15)
                  by_cases c18 : 0 ≤ (ji17)
                  · rw [if_pos c18] at H
                    have c18b0 := eq_true c18
                    have c18b1 : decide (0 ≤ (ji17)) = true := decide_eq_true c18
                    clear c18
                    obtain ⟨ji19, hji19⟩ : ∃ j_ : Int, (shl .u64 255 (ji17)) = j_ := ⟨_, rfl⟩
                    replace H : (ferryref03_Clear.l1 k2 a1 a2 x7_1 x8_1 (IntKind.u64.wrap (x10_2 + 1)) l0_0 l0_1 ((rd_T60 l0_1 x8_1).f0) (Go.bits .andNot .u64 x337001_2 (ji19))) = some (r1, r2) := by first | (rw [hji19] at H; exact H) | (simp only [hji19] at H ⊢; exact H)
                    (try rw [hji19] at A15)
                    have hji19_ : (IntKind.u64.wrap (255 * 2 ^ min (ji17).toNat 64)) = ji19 := hji19
                    have hji19z : (ji17) ≤ 64 → (IntKind.u64.wrap (255 * 2 ^ (ji17).toNat)) = ji19 := shl_small hji19
                    have H' := Aside0.mk H
                    clear H
                    have hnb20 := NB336_333.out
                    have hnc20 := NB333_336.out
                    have hnb21 := NB336_334.out
                    have hnc21 := NB334_336.out
                    obtain ⟨hcz22_0, hcz22_1, hfz22_0, hfz22_1⟩ := b2_ BK336.out
                    go_wp2_with (first | ((with_reducible refine gate_callee (f := 82) rfl ?_); refine gL_ (some 33) Try.func82 #[.int .u64 (IntKind.u64.wrap (((rd_T60 l0_1 x8_1).f0) + x10_2)), .int .u64 a1, .int .u64 a2] ?_; (with_reducible refine (ferryref03_inside.calls (IntKind.u64.wrap (((rd_T60 l0_1 x8_1).f0) + x10_2)) a1 a2 true _ A15.out).mono ?_); rintro e w' ⟨rfl, ⟨nd, rfl⟩⟩; refine ⟨_, rfl, ?_⟩; (try (rw [drewN_self wr]; generalize hq_ : World.drewN wr _ = wr; replace HO_334000 : Aside0 (Kd.V k55 55 wr w.heap.size (fun k_ => (P0_0_ k_ ∨ w.heap.size ≤ k_) ∧ some k_ ≠ (u7 : Value).ownBlock ∧ k_ ≠ gb333 ∧ k_ ≠ gb334 ∧ k_ ≠ gb336) (.slice A0_0 l0_0.length c0_0) l0_0) := ⟨by rw [← hq_]; exact (vT_ HO_334000.out)⟩; replace HO_7 : Aside0 (Kd.R k60 60 wr w.heap.size (fun k_ => (w.heap.size ≤ k_) ∧ k_ ≠ gb336) u7 x7_1) := ⟨by rw [← hq_]; exact (rT_ HO_7.out)⟩; replace BK333 : Aside0 (wr.heap[gb333]? = some (.cells #[.slice A0_0 l0_0.length c0_0, .slice (some ad335) l0_1.length c0_1] 25 (0, 0))) := ⟨by rw [← hq_]; exact (bT_ BK333.out)⟩; replace BK334 : Aside0 (wr.heap[gb334]? = some (.cells #[.slice none 0 0, .slice none 0 0] 25 (0, 0))) := ⟨by rw [← hq_]; exact (bT_ BK334.out)⟩; replace BK336 : Aside0 (wr.heap[gb336]? = some (.cells #[.int .u64 ((rd_T60 l0_1 x8_1).f0), .int .u64 x337001_2] 60 (0, 0))) := ⟨by rw [← hq_]; exact (bT_ BK336.out)⟩; replace HB : Aside0 (Below w.heap.size w wr) := ⟨by rw [← hq_]; exact beT_⟩; clear hq_; (try have hcz22_0 : wr.cell? ⟨gb336, 0, none⟩ = some (.int .u64 ((rd_T60 l0_1 x8_1).f0)) := (blk_cell BK336.out 0).trans rfl); (try have hcz22_1 : wr.cell? ⟨gb336, 1, none⟩ = some (.int .u64 x337001_2) := (blk_cell BK336.out 1).trans rfl); (try have hfz22_0 := blk_frozen BK336.out 0); (try have hfz22_1 := blk_frozen BK336.out 1)))))
                    go_roundg k2
                    case measure => have := HK1.out; have := HK2.out; omega
                    case rel => exact ⟨(IntKind.u64.wrap (x10_2 + 1)), (Go.bits .andNot .u64 x337001_2 (ji19)), r1_, H', ⟨by have := HK1.out; have := HK2.out; omega⟩, ⟨rF_ HO_7.out⟩, ⟨vF_ HO_334000.out⟩, ⟨bfT_ BK333.out⟩, ⟨bfT_ BK334.out⟩, ⟨kP_ BK336.out⟩, ⟨beT_⟩⟩
                  rw [if_neg c18] at H
                  exact absurd H (by simp)
                replace c16 := Bool.eq_false_iff.mpr c16
                subst c16
                replace H := hN_ H
                have H' := Aside0.mk H
                clear H
                have hnb23 := NB336_333.out
                have hnc23 := NB333_336.out
                have hnb24 := NB336_334.out
                have hnc24 := NB334_336.out
                obtain ⟨hcz25_0, hcz25_1, hfz25_0, hfz25_1⟩ := b2_ BK336.out
                go_wp2_with (first | ((with_reducible refine gate_callee (f := 82) rfl ?_); refine gL_ (some 33) Try.func82 #[.int .u64 (IntKind.u64.wrap (((rd_T60 l0_1 x8_1).f0) + x10_2)), .int .u64 a1, .int .u64 a2] ?_; (with_reducible refine (ferryref03_inside.calls (IntKind.u64.wrap (((rd_T60 l0_1 x8_1).f0) + x10_2)) a1 a2 false _ A15.out).mono ?_); rintro e w' ⟨rfl, ⟨nd, rfl⟩⟩; refine ⟨_, rfl, ?_⟩))
                go_roundg k2
                case measure => have := HK1.out; have := HK2.out; omega
                case rel => exact ⟨(IntKind.u64.wrap (x10_2 + 1)), (x337001_2), r1_, H', ⟨by have := HK1.out; have := HK2.out; omega⟩, ⟨rT_ HO_7.out⟩, ⟨vT_ HO_334000.out⟩, ⟨bT_ BK333.out⟩, ⟨bT_ BK334.out⟩, ⟨bT_ BK336.out⟩, ⟨beT_⟩⟩
              rw [if_neg c14] at H
              have c14b0 : decide (x10_2 < 8) = false := decide_eq_false c14
              clear c14
              by_cases c26 : x337001_2 = 0
              · rw [if_pos c26] at H
                have c26b0 : (x337001_2 == 0) = true := beq_iff_eq.mpr c26
                have c26b1 : (x337001_2 != 0) = false := bne_eq_false_iff_eq.mpr c26
                clear c26
                have H' := Aside0.mk H
                clear H
                have hnb27 := NB336_333.out
                have hnc27 := NB333_336.out
                have hnb28 := NB336_334.out
                have hnc28 := NB334_336.out
                obtain ⟨hcz29_0, hcz29_1, hfz29_0, hfz29_1⟩ := b2_ BK336.out
                go_wp2
                go_roundg k2
                case measure => have := HK1.out; have := HK2.out; omega
                case rel => exact ⟨(x7_1), (wrap64 (x8_1 + 1)), r1_, H', ⟨by have := HK1.out; have := HK2.out; omega⟩, ⟨rM_ HO_7.out⟩, ⟨vM_ HO_334000.out⟩, ⟨bT_ BK333.out⟩, ⟨bT_ BK334.out⟩, ⟨beT_⟩⟩
              rw [if_neg c26] at H
              have c26b0 : (x337001_2 == 0) = false := beq_eq_false_iff_ne.mpr c26
              have c26b1 : (x337001_2 != 0) = true := bne_iff_ne.mpr c26
              by_cases c30 : x7_1.length < 8796093022208
              · rw [if_pos c30] at H
                have LMc30 := Aside0.mk c30
                clear c30
                obtain ⟨y338, hy338⟩ : ∃ y_ : List (S60), y_ = (x7_1 ++ [(⟨((rd_T60 l0_1 x8_1).f0), x337001_2⟩ : S60)]) := ⟨_, rfl⟩
                replace H : (ferryref03_Clear.l0 k2 a1 a2 y338 (wrap64 (x8_1 + 1)) l0_0 l0_1) = some (r1, r2) := by first | (rw [hy338]; with_reducible exact H) | (have H2_ := (Option.bind_some _ _).symm.trans H; rw [hy338]; with_reducible exact H2_) | (have H2_ := (Option.bind_some _ _).symm.trans H; with_reducible exact H2_) | with_reducible exact H | (rw [hy338]; exact H) | exact H
                have Ny338 := Aside0.mk hy338
                clear hy338
                have H' := Aside0.mk H
                clear H
                have hnb31 := NB336_333.out
                have hnc31 := NB333_336.out
                have hnb32 := NB336_334.out
                have hnc32 := NB334_336.out
                obtain ⟨hcz33_0, hcz33_1, hfz33_0, hfz33_1⟩ := b2_ BK336.out
                go_wp2_with (first | ((with_reducible refine gate_builtin (b := .append) (xs := #[.tmp 44, .tmp 46]) rfl ?_); at_builtin; refine Kd.R_append k60 (w0 := w) w.heap.size rfl (.tmp 44) (.tmp 46) 23 60 (.agg #[(.int .u64 0), (.int .u64 0)]) 16 rfl Try.underlying23 info60 rfl (by decide) (by omega) u7 x7_1 (⟨((rd_T60 l0_1 x8_1).f0), x337001_2⟩ : S60) [.int .u64 ((rd_T60 l0_1 x8_1).f0), .int .u64 x337001_2] (fun k_ => (w.heap.size ≤ k_) ∧ k_ ≠ gb336) (fun _ => False) rfl rfl ?aP (fun _ hk => hk.elim) ?aF ?aO ?aB ?aS ?aL ?_; (case aP => exact k60_mkM _ _ _ (⟨((rd_T60 l0_1 x8_1).f0), x337001_2⟩ : S60)); (case aB => exact beT_); (case aF => exact (fun k_ hk => ⟨(Nat.le_trans (below_size beT_) hk), Kd.freshB (g := gb336) (o := .cells #[.int .u64 ((rd_T60 l0_1 x8_1).f0), .int .u64 x337001_2] 60 (0, 0)) (bT_ BK336.out) k_ hk⟩)); (case aO => exact (rT_ HO_7.out)); (case aS => exact (below_size beT_)); (case aL => have := LMc30.out; omega); intro v339 w34 ho hb hg hat; rw [← Ny338.out] at ho; have HO340 := Aside0.mk ho; replace HO_334000 := Aside0.mk (Kd.V_afterv (ok := (fun k_ => (P0_0_ k_ ∨ w.heap.size ≤ k_) ∧ k_ ≠ gb333 ∧ k_ ≠ gb334 ∧ k_ ≠ gb336)) (vM_ HO_334000.out) hg hat); replace BK333 := kG_ BK333.out hg (Kd.R_ne HO_7.out BK333.out (by decide)); replace BK334 := kG_ BK334.out hg (Kd.R_ne HO_7.out BK334.out (by decide)); replace BK336 := kG_ BK336.out hg (Kd.R_away HO_7.out (fun _ hk => hk.2)); replace HB := Aside0.mk hb; clear HO_7; clear ho hb hg hat))
                go_roundg k2
                case measure => have := HK1.out; have := HK2.out; omega
                case rel => exact ⟨(y338), (wrap64 (x8_1 + 1)), r1_, H', ⟨by have := HK1.out; have := HK2.out; omega⟩, ⟨rM_ HO340.out⟩, ⟨vM_ HO_334000.out⟩, ⟨bT_ BK333.out⟩, ⟨bT_ BK334.out⟩, ⟨beT_⟩⟩
              rw [if_neg c30] at H
              exact absurd H (by simp)
        rw [if_neg c7] at H
        exact absurd H (by simp)
      rw [if_neg c6] at H
      have c6b0 : decide (x8_1 < (l0_1.length : Int)) = false := decide_eq_false c6
      clear c6
      simp only [Option.some.injEq, Prod.mk.injEq] at H
      obtain ⟨rfl, rfl⟩ := H
      have hnb35 := NB333_334.out
      have hnc35 := NB334_333.out
      obtain ⟨hcz36_0, hcz36_1, hfz36_0, hfz36_1⟩ := b2_ BK333.out
      obtain ⟨Ao37, co37, eo37⟩ := Kd.R_slice HO_7.out
      subst eo37
      obtain ⟨hcz38_0, hcz38_1, hfz38_0, hfz38_1⟩ := b2_ BK334.out
      go_wp2
      refine bodyPost_ret (results_cell_row rfl _ _ gb334 25 #[.slice A0_0 l0_0.length c0_0, .slice Ao37 x7_1.length co37] (0, 0) _ rfl (kP_ BK334.out) Try.underlying25 rfl (by kernel_rfl)) rfl ?_
      exact ⟨_, _, r3_, (vF_ HO_334000.out), by (with_reducible repeat (first | apply Kd.R_alloc | apply Kd.R_drewN | apply Kd.R_drew)); exact Kd.R_mono (Kd.R_far (p := ⟨gb334, 1, none⟩) (Kd.R_far (p := ⟨gb334, 0, none⟩) (Kd.R_far (p := ⟨gb333, 1, none⟩) (Kd.R_types (Kd.R_types HO_7.out BK333.out (by decide)) BK334.out (by decide)) (fun _ hk => hk.1.2) (.slice Ao37 x7_1.length co37)) (fun _ hk => hk.2) (.slice A0_0 l0_0.length c0_0)) (fun _ hk => hk.2) (.slice Ao37 x7_1.length co37)) (fun _ hk => hk.1.1), beT_⟩

end Go.Proofs.Ytjhfglpgpicmiaa.F
end
