import Derived.Test.YtgkjdpdmmlalcaaKZF0
import Derived.Test.YtgkjdpdmmlalcaaKA0
import Derived.Test.YtgkjdpdmmlalcaaKA5
import Derived.Test.YtgkjdpdmmlalcaaKA14
section
namespace Go.Proofs.Ytgkjdpdmmlalcaa.F
open Go.RowKit Go.Proofs.YtgkjdpdmmlalcaaW.PrintWords Go.Proofs.YtgkjdpdmmlalcaaW.PrintLast Go.Proofs.YtgkjdpdmmlalcaaW.PrintMore
attribute [local go_sem] max2_int min2_int max_two min_two max_three min_three max_four min_four
attribute [local go_sem] cell_twice
set_option linter.unusedVariables false
set_option linter.unusedSimpArgs false

mutual
def ferryref03_Clear.l0 : Nat → Int → Int → List (S88) → Int → List (S83) → List (S88) → Option ((List (S83)) × (List (S88)))
  | 0, _, _, _, _, _, _ => none
  | k + 1, x1, x2, x7, x8, x250000, x250001 => if x8 < (x250001.length : Int) then (if 0 ≤ x8 then (ferryref03_Clear.l1 k x1 x2 x7 x8 0 x250000 x250001 ((rd_T88 x250001 x8).f0) ((rd_T88 x250001 x8).f1)) else (none)) else (some (x250000, x7))
def ferryref03_Clear.l1 : Nat → Int → Int → List (S88) → Int → Int → List (S83) → List (S88) → Int → Int → Option ((List (S83)) × (List (S88)))
  | 0, _, _, _, _, _, _, _, _, _ => none
  | k + 1, x1, x2, x7, x8, x10, x250000, x250001, x253000, x253001 => if x10 < 8 then ((ferryref03_inside.f (IntKind.u64.wrap (x253000 + x10)) x1 x2).bind fun t253 => (if t253 = true then (if 0 ≤ (IntKind.u64.wrap (8 * x10)) then (ferryref03_Clear.l1 k x1 x2 x7 x8 (IntKind.u64.wrap (x10 + 1)) x250000 x250001 x253000 (Go.bits .andNot .u64 x253001 (shl .u64 255 (IntKind.u64.wrap (8 * x10))))) else (none)) else (ferryref03_Clear.l1 k x1 x2 x7 x8 (IntKind.u64.wrap (x10 + 1)) x250000 x250001 x253000 x253001))) else (if x253001 = 0 then (ferryref03_Clear.l0 k x1 x2 x7 (wrap64 (x8 + 1)) x250000 x250001) else (if x7.length < 8796093022208 then (ferryref03_Clear.l0 k x1 x2 (x7 ++ [(⟨x253000, x253001⟩ : S88)]) (wrap64 (x8 + 1)) x250000 x250001) else (none)))
end
def ferryref03_Clear.f (k : Nat) (l0_0 : List (S83)) (l0_1 : List (S88)) (a1 : Int) (a2 : Int) : Option ((List (S83)) × (List (S88))) := ferryref03_Clear.l0 k a1 a2 ([] : List (S88)) 0 l0_0 l0_1
set_option maxHeartbeats 8000000 in
set_option maxRecDepth 100000 in
theorem ferryref03_Clear.calls (k : Nat) (P0_0_ : Nat → Prop) (A0_0 : Option Addr) (c0_0 : Nat) (l0_0 : List (S83)) (A0_1 : Option Addr) (c0_1 : Nat) (l0_1 : List (S88)) (a1 : Int) (a2 : Int) (r1 : List (S83)) (r2 : List (S88)) (w : World) (hs0_0 : Kd.V k83 83 w w.heap.size (fun k_ => P0_0_ k_) (.slice A0_0 l0_0.length c0_0) l0_0) (hr0_1 : Kd.C k88 w A0_1 l0_1.length l0_1) (hc0_1 : l0_1.length ≤ c0_1) (h : ferryref03_Clear.f k l0_0 l0_1 a1 a2 = some (r1, r2)) :
    Calls Try.prog 73 #[.agg #[.slice A0_0 l0_0.length c0_0, .slice A0_1 l0_1.length c0_1], .int .u64 a1, .int .u64 a2] w fun e w' => ∃ v0_ v1_ : Value, e = .returned (.agg #[v0_, v1_]) ∧ Kd.V k83 83 w' w.heap.size (fun k_ => (P0_0_ k_ ∨ w.heap.size ≤ k_) ∧ some k_ ≠ (v1_ : Value).ownBlock) v0_ r1 ∧ Kd.R k88 88 w' w.heap.size (fun k_ => (w.heap.size ≤ k_)) v1_ r2 ∧ Below w.heap.size w w' := by
  have hu25 := Try.underlying25
  have hu88 := Try.underlying88
  have HO0_0 := Aside0.mk (show Kd.V k83 83 w w.heap.size (fun k_ => (P0_0_ k_ ∨ w.heap.size ≤ k_)) (.slice A0_0 l0_0.length c0_0) l0_0 from Kd.V_mono hs0_0 (fun k_ hk => .inl hk))
  have HR0_1 := Aside0.mk hr0_1
  have HC0_1 := Aside0.mk hc0_1
  clear hr0_1 hc0_1
  have HB := Aside0.mk (Below.refl w.heap.size w)
  have H : (ferryref03_Clear.l0 k a1 a2 ([] : List (S88)) 0 l0_0 l0_1) = some (r1, r2) := h
  clear h
  have H' := Aside0.mk H
  clear H
  go_enter Try.func73, Try.ntmps73
  go_wp2_with (first | ((with_reducible refine gate_dst (N := 3) rfl ?_); refine bE_ 3 #[.slice A0_0 l0_0.length c0_0, .slice A0_1 l0_1.length c0_1] 25 ?_; intro gb249 hg w4 hbox hb; have BK249 := Aside0.mk hbox; have GW249 := geT_ w.heap.size hg; have GE249 := geT_ w.heap.size hg; replace HO0_0 := vE_ HO0_0.out hg hb; replace HB := hB_ hb; clear hb hbox hg) | ((with_reducible refine gate_dst (N := 6) rfl ?_); refine bE_ 6 #[.slice none 0 0, .slice none 0 0] 25 ?_; intro gb250 hg w5 hbox hb; have BK250 := Aside0.mk hbox; have GW250 := geT_ w.heap.size hg; have GE250 := geT_ w.heap.size hg; have NB249_250 := nlT_ BK249.out hg; have NB250_249 := ngT_ BK249.out hg; replace HO0_0 := vE_ HO0_0.out hg hb; replace BK249 := kB_ BK249 hb; replace HB := hB_ hb; clear hb hbox hg))
  go_loopg [7, 8] k (fun kq v7 v8 w' => ∃ (x7_1 : List (S88)) (x8_1 : Int), v8 = .int .i64 x8_1 ∧ Aside0 (ferryref03_Clear.l0 kq a1 a2 x7_1 x8_1 l0_0 l0_1 = some (r1, r2)) ∧ Aside0 (kq ≤ k) ∧ Aside0 (Kd.R k88 88 w' w.heap.size (fun k_ => (w.heap.size ≤ k_)) v7 x7_1) ∧ Aside0 (Kd.V k83 83 w' w.heap.size (fun k_ => (P0_0_ k_ ∨ w.heap.size ≤ k_) ∧ some k_ ≠ (v7 : Value).ownBlock ∧ k_ ≠ gb249 ∧ k_ ≠ gb250) (.slice A0_0 l0_0.length c0_0) l0_0) ∧ Aside0 (w'.heap[gb249]? = some (.cells #[(.slice A0_0 l0_0.length c0_0), (.slice A0_1 l0_1.length c0_1)] 25 (0, 0))) ∧ Aside0 (w'.heap[gb250]? = some (.cells #[(.slice none 0 0), (.slice none 0 0)] 25 (0, 0))) ∧ Aside0 (Below w.heap.size w w'))
  case atStart => exact ⟨(([] : List (S88))), (0), r1_, H', ⟨Nat.le_refl _⟩, ⟨by exact Kd.R_nil _ _ _ _ _⟩, ⟨vM_ HO0_0.out⟩, ⟨bT_ BK249.out⟩, ⟨bT_ BK250.out⟩, ⟨beT_⟩⟩
  case round =>
    clear H'
    obtain ⟨x7_1, x8_1, rfl, HA, HK1, HO_7, HO_250000, BK249, BK250, HB⟩ := hrel
    cases gk with
    | zero => exact absurd HA.out (by simp [ferryref03_Clear.l0])
    | succ k1 =>
      have H := HA.out
      clear HA
      simp only [ferryref03_Clear.l0] at H
      by_cases c6 : x8_1 < (l0_1.length : Int)
      · rw [if_pos c6] at H
        have c6b0 : decide (x8_1 < (l0_1.length : Int)) = true := decide_eq_true c6
        clear c6
        by_cases c7 : 0 ≤ x8_1
        · rw [if_pos c7] at H
          have c7b0 : decide (0 ≤ x8_1) = true := decide_eq_true c7
          clear c7
          have H' := Aside0.mk H
          clear H
          have hnb8 := NB249_250.out
          have hnc8 := NB250_249.out
          obtain ⟨hcz9_0, hcz9_1, hfz9_0, hfz9_1⟩ := b2_ BK249.out
          have p251 : 0 ≤ (x8_1 : Int) := dT_
          have q251 : x8_1 < (l0_1.length : Int) := dT_
          obtain ⟨ad251, e251, hx251_0, hx251_1⟩ := at_T88 HR0_1.out x8_1 p251 q251
          cases e251
          replace hx251_0 := hX_ hx251_0
          replace hx251_1 := hX_ hx251_1
          replace p251 := eq_true p251
          replace q251 := eq_true q251
          go_wp2_with (((with_reducible refine gate_dst (N := 9) rfl ?_); refine bE_ 9 #[.int .u64 0, .int .u64 0] 88 ?_; intro gb252 hg w10 hbox hb; have BK252 := Aside0.mk hbox; have GW252 := geT_ w.heap.size hg; have GE252 := geT_ w.heap.size hg; have NB249_252 := nlT_ BK249.out hg; have NB252_249 := ngT_ BK249.out hg; have NB250_252 := nlT_ BK250.out hg; have NB252_250 := ngT_ BK250.out hg; replace HO_7 := rE_ HO_7.out hg hb; replace HO_250000 := vE_ HO_250000.out hg hb; replace BK249 := kB_ BK249 hb; replace BK250 := kB_ BK250 hb; replace HB := hB_ hb; clear hb hbox hg; have hnb11 := NB252_249.out; have hnc11 := NB249_252.out; have hnb12 := NB252_250.out; have hnc12 := NB250_252.out; obtain ⟨hcz13_0, hcz13_1, hfz13_0, hfz13_1⟩ := b2_ BK252.out))
          go_loopg [10] k1 (fun kq v10 w' => ∃ (x10_2 : Int) (x253001_2 : Int), v10 = .int .u64 x10_2 ∧ Aside0 (ferryref03_Clear.l1 kq a1 a2 x7_1 x8_1 x10_2 l0_0 l0_1 ((rd_T88 l0_1 x8_1).f0) x253001_2 = some (r1, r2)) ∧ Aside0 (kq ≤ k1) ∧ Aside0 (Kd.R k88 88 w' w.heap.size (fun k_ => (w.heap.size ≤ k_) ∧ k_ ≠ gb252) u7 x7_1) ∧ Aside0 (Kd.V k83 83 w' w.heap.size (fun k_ => (P0_0_ k_ ∨ w.heap.size ≤ k_) ∧ some k_ ≠ (u7 : Value).ownBlock ∧ k_ ≠ gb249 ∧ k_ ≠ gb250 ∧ k_ ≠ gb252) (.slice A0_0 l0_0.length c0_0) l0_0) ∧ Aside0 (w'.heap[gb249]? = some (.cells #[(.slice A0_0 l0_0.length c0_0), (.slice (some ad251) l0_1.length c0_1)] 25 (0, 0))) ∧ Aside0 (w'.heap[gb250]? = some (.cells #[(.slice none 0 0), (.slice none 0 0)] 25 (0, 0))) ∧ Aside0 (w'.heap[gb252]? = some (.cells #[.int .u64 ((rd_T88 l0_1 x8_1).f0), .int .u64 x253001_2] 88 (0, 0))) ∧ Aside0 (Below w.heap.size w w'))
          case atStart => exact ⟨(0), ((rd_T88 l0_1 x8_1).f1), r1_, H', ⟨Nat.le_refl _⟩, ⟨rF_ HO_7.out⟩, ⟨vF_ HO_250000.out⟩, ⟨bfT_ BK249.out⟩, ⟨bfT_ BK250.out⟩, ⟨kP_ BK252.out⟩, ⟨beT_⟩⟩
          case round =>
            clear H'
            try clear c6b0
            try clear c7b0
            try clear hcz13_0
            try clear hcz13_1
            try clear hcz9_0
            try clear hcz9_1
            try clear hfz13_0
            try clear hfz13_1
            try clear hfz9_0
            try clear hfz9_1
            try clear hx251_0
            try clear hx251_1
            try clear p251
            try clear q251
            obtain ⟨x10_2, x253001_2, rfl, HA, HK2, HO_7, HO_250000, BK249, BK250, BK252, HB⟩ := hrel
            cases gk with
            | zero => exact absurd HA.out (by simp [ferryref03_Clear.l1])
            | succ k2 =>
              have H := HA.out
              clear HA
              simp only [ferryref03_Clear.l1] at H
              by_cases c14 : x10_2 < 8
              · rw [if_pos c14] at H
                have c14b0 : decide (x10_2 < 8) = true := decide_eq_true c14
                clear c14
                replace H := Option.bind_eq_some_iff.mp H
                obtain ⟨t253, A150, H⟩ := H
                have A15 := Aside0.mk A150
                clear A150
                by_cases c16 : t253 = true
                · subst c16
                  replace H := hP_ H
                  obtain ⟨ji17, hji17⟩ : ∃ j_ : Int, (IntKind.u64.wrap (8 * x10_2)) = j_ := ⟨_, rfl⟩
                  replace H : (if 0 ≤ (ji17) then (ferryref03_Clear.l1 k2 a1 a2 x7_1 x8_1 (IntKind.u64.wrap (x10_2 + 1)) l0_0 l0_1 ((rd_T88 l0_1 x8_1).f0) (Go.bits .andNot .u64 x253001_2 (shl .u64 255 (ji17)))) else (none)) = some (r1, r2) := by (rw [hji17] at H; exact H)
                  by_cases c18 : 0 ≤ (ji17)
                  · rw [if_pos c18] at H
                    have c18b0 := eq_true c18
                    have c18b1 : decide (0 ≤ (ji17)) = true := decide_eq_true c18
                    clear c18
                    obtain ⟨ji19, hji19⟩ : ∃ j_ : Int, (shl .u64 255 (ji17)) = j_ := ⟨_, rfl⟩
                    replace H : (ferryref03_Clear.l1 k2 a1 a2 x7_1 x8_1 (IntKind.u64.wrap (x10_2 + 1)) l0_0 l0_1 ((rd_T88 l0_1 x8_1).f0) (Go.bits .andNot .u64 x253001_2 (ji19))) = some (r1, r2) := by (rw [hji19] at H; exact H)
                    have hji19_ : (IntKind.u64.wrap (255 * 2 ^ min (ji17).toNat 64)) = ji19 := hji19
                    have hji19z : (ji17) ≤ 64 → (IntKind.u64.wrap (255 * 2 ^ (ji17).toNat)) = ji19 := shl_small hji19
                    have H' := Aside0.mk H
                    clear H
                    have hnb20 := NB252_249.out
                    have hnc20 := NB249_252.out
                    have hnb21 := NB252_250.out
                    have hnc21 := NB250_252.out
                    obtain ⟨hcz22_0, hcz22_1, hfz22_0, hfz22_1⟩ := b2_ BK252.out
                    go_wp2_with (((with_reducible refine gate_callee (f := 103) rfl ?_); refine gL_ (some 33) Try.func103 #[.int .u64 (IntKind.u64.wrap (((rd_T88 l0_1 x8_1).f0) + x10_2)), .int .u64 a1, .int .u64 a2] ?_; (with_reducible refine (ferryref03_inside.calls (IntKind.u64.wrap (((rd_T88 l0_1 x8_1).f0) + x10_2)) a1 a2 true _ A15.out).mono ?_); rintro e w' ⟨rfl, ⟨nd, rfl⟩⟩; refine ⟨_, rfl, ?_⟩; (try (rw [drewN_self wr]; generalize hq_ : World.drewN wr _ = wr; replace HO_250000 : Aside0 (Kd.V k83 83 wr w.heap.size (fun k_ => (P0_0_ k_ ∨ w.heap.size ≤ k_) ∧ some k_ ≠ (u7 : Value).ownBlock ∧ k_ ≠ gb249 ∧ k_ ≠ gb250 ∧ k_ ≠ gb252) (.slice A0_0 l0_0.length c0_0) l0_0) := ⟨by rw [← hq_]; exact (vT_ HO_250000.out)⟩; replace HO_7 : Aside0 (Kd.R k88 88 wr w.heap.size (fun k_ => (w.heap.size ≤ k_) ∧ k_ ≠ gb252) u7 x7_1) := ⟨by rw [← hq_]; exact (rT_ HO_7.out)⟩; replace BK249 : Aside0 (wr.heap[gb249]? = some (.cells #[.slice A0_0 l0_0.length c0_0, .slice (some ad251) l0_1.length c0_1] 25 (0, 0))) := ⟨by rw [← hq_]; exact (bT_ BK249.out)⟩; replace BK250 : Aside0 (wr.heap[gb250]? = some (.cells #[.slice none 0 0, .slice none 0 0] 25 (0, 0))) := ⟨by rw [← hq_]; exact (bT_ BK250.out)⟩; replace BK252 : Aside0 (wr.heap[gb252]? = some (.cells #[.int .u64 ((rd_T88 l0_1 x8_1).f0), .int .u64 x253001_2] 88 (0, 0))) := ⟨by rw [← hq_]; exact (bT_ BK252.out)⟩; replace HB : Aside0 (Below w.heap.size w wr) := ⟨by rw [← hq_]; exact beT_⟩; clear hq_; (try have hcz22_0 : wr.cell? ⟨gb252, 0, none⟩ = some (.int .u64 ((rd_T88 l0_1 x8_1).f0)) := (blk_cell BK252.out 0).trans rfl); (try have hcz22_1 : wr.cell? ⟨gb252, 1, none⟩ = some (.int .u64 x253001_2) := (blk_cell BK252.out 1).trans rfl); (try have hfz22_0 := blk_frozen BK252.out 0); (try have hfz22_1 := blk_frozen BK252.out 1)))))
                    go_roundg k2
                    case measure => have := HK1.out; have := HK2.out; omega
                    case rel => exact ⟨(IntKind.u64.wrap (x10_2 + 1)), (Go.bits .andNot .u64 x253001_2 (ji19)), r1_, H', ⟨by have := HK1.out; have := HK2.out; omega⟩, ⟨rF_ HO_7.out⟩, ⟨vF_ HO_250000.out⟩, ⟨bfT_ BK249.out⟩, ⟨bfT_ BK250.out⟩, ⟨kP_ BK252.out⟩, ⟨beT_⟩⟩
                  rw [if_neg c18] at H
                  exact absurd H (by simp)
                replace c16 := Bool.eq_false_iff.mpr c16
                subst c16
                replace H := hN_ H
                have H' := Aside0.mk H
                clear H
                have hnb23 := NB252_249.out
                have hnc23 := NB249_252.out
                have hnb24 := NB252_250.out
                have hnc24 := NB250_252.out
                obtain ⟨hcz25_0, hcz25_1, hfz25_0, hfz25_1⟩ := b2_ BK252.out
                go_wp2_with (((with_reducible refine gate_callee (f := 103) rfl ?_); refine gL_ (some 33) Try.func103 #[.int .u64 (IntKind.u64.wrap (((rd_T88 l0_1 x8_1).f0) + x10_2)), .int .u64 a1, .int .u64 a2] ?_; (with_reducible refine (ferryref03_inside.calls (IntKind.u64.wrap (((rd_T88 l0_1 x8_1).f0) + x10_2)) a1 a2 false _ A15.out).mono ?_); rintro e w' ⟨rfl, ⟨nd, rfl⟩⟩; refine ⟨_, rfl, ?_⟩))
                go_roundg k2
                case measure => have := HK1.out; have := HK2.out; omega
                case rel => exact ⟨(IntKind.u64.wrap (x10_2 + 1)), (x253001_2), r1_, H', ⟨by have := HK1.out; have := HK2.out; omega⟩, ⟨rT_ HO_7.out⟩, ⟨vT_ HO_250000.out⟩, ⟨bT_ BK249.out⟩, ⟨bT_ BK250.out⟩, ⟨bT_ BK252.out⟩, ⟨beT_⟩⟩
              rw [if_neg c14] at H
              have c14b0 : decide (x10_2 < 8) = false := decide_eq_false c14
              clear c14
              by_cases c26 : x253001_2 = 0
              · rw [if_pos c26] at H
                have c26b0 : (x253001_2 == 0) = true := beq_iff_eq.mpr c26
                have c26b1 : (x253001_2 != 0) = false := bne_eq_false_iff_eq.mpr c26
                clear c26
                have H' := Aside0.mk H
                clear H
                have hnb27 := NB252_249.out
                have hnc27 := NB249_252.out
                have hnb28 := NB252_250.out
                have hnc28 := NB250_252.out
                obtain ⟨hcz29_0, hcz29_1, hfz29_0, hfz29_1⟩ := b2_ BK252.out
                go_wp2
                go_roundg k2
                case measure => have := HK1.out; have := HK2.out; omega
                case rel => exact ⟨(x7_1), (wrap64 (x8_1 + 1)), r1_, H', ⟨by have := HK1.out; have := HK2.out; omega⟩, ⟨rM_ HO_7.out⟩, ⟨vM_ HO_250000.out⟩, ⟨bT_ BK249.out⟩, ⟨bT_ BK250.out⟩, ⟨beT_⟩⟩
              rw [if_neg c26] at H
              have c26b0 : (x253001_2 == 0) = false := beq_eq_false_iff_ne.mpr c26
              have c26b1 : (x253001_2 != 0) = true := bne_iff_ne.mpr c26
              by_cases c30 : x7_1.length < 8796093022208
              · rw [if_pos c30] at H
                have LMc30 := Aside0.mk c30
                clear c30
                obtain ⟨y254, hy254⟩ : ∃ y_ : List (S88), y_ = (x7_1 ++ [(⟨((rd_T88 l0_1 x8_1).f0), x253001_2⟩ : S88)]) := ⟨_, rfl⟩
                replace H : (ferryref03_Clear.l0 k2 a1 a2 y254 (wrap64 (x8_1 + 1)) l0_0 l0_1) = some (r1, r2) := by (rw [hy254]; with_reducible exact H)
                have Ny254 := Aside0.mk hy254
                clear hy254
                have H' := Aside0.mk H
                clear H
                have hnb31 := NB252_249.out
                have hnc31 := NB249_252.out
                have hnb32 := NB252_250.out
                have hnc32 := NB250_252.out
                obtain ⟨hcz33_0, hcz33_1, hfz33_0, hfz33_1⟩ := b2_ BK252.out
                go_wp2_with (((with_reducible refine gate_builtin (b := .append) (xs := #[.tmp 44, .tmp 46]) rfl ?_); at_builtin; refine Kd.R_append k88 (w0 := w) w.heap.size rfl (.tmp 44) (.tmp 46) 23 88 (.agg #[(.int .u64 0), (.int .u64 0)]) 16 rfl Try.underlying23 info88 rfl (by decide) (by omega) u7 x7_1 (⟨((rd_T88 l0_1 x8_1).f0), x253001_2⟩ : S88) [.int .u64 ((rd_T88 l0_1 x8_1).f0), .int .u64 x253001_2] (fun k_ => (w.heap.size ≤ k_) ∧ k_ ≠ gb252) (fun _ => False) rfl rfl ?aP (fun _ hk => hk.elim) ?aF ?aO ?aB ?aS ?aL ?_; (case aP => exact k88_mkM _ _ _ (⟨((rd_T88 l0_1 x8_1).f0), x253001_2⟩ : S88)); (case aB => exact beT_); (case aF => exact (fun k_ hk => ⟨(Nat.le_trans (below_size beT_) hk), Kd.freshB (g := gb252) (o := .cells #[.int .u64 ((rd_T88 l0_1 x8_1).f0), .int .u64 x253001_2] 88 (0, 0)) (bT_ BK252.out) k_ hk⟩)); (case aO => exact (rT_ HO_7.out)); (case aS => exact (below_size beT_)); (case aL => have := LMc30.out; omega); intro v255 w34 ho hb hg hat; rw [← Ny254.out] at ho; have HO256 := Aside0.mk ho; replace HO_250000 := Aside0.mk (Kd.V_afterv (ok := (fun k_ => (P0_0_ k_ ∨ w.heap.size ≤ k_) ∧ k_ ≠ gb249 ∧ k_ ≠ gb250 ∧ k_ ≠ gb252)) (vM_ HO_250000.out) hg hat); replace BK249 := kG_ BK249.out hg (Kd.R_ne HO_7.out BK249.out (by decide)); replace BK250 := kG_ BK250.out hg (Kd.R_ne HO_7.out BK250.out (by decide)); replace BK252 := kG_ BK252.out hg (Kd.R_away HO_7.out (fun _ hk => by exact hk.2)); replace HB := Aside0.mk hb; clear HO_7; clear ho hb hg hat))
                go_roundg k2
                case measure => have := HK1.out; have := HK2.out; omega
                case rel => exact ⟨(y254), (wrap64 (x8_1 + 1)), r1_, H', ⟨by have := HK1.out; have := HK2.out; omega⟩, ⟨rM_ HO256.out⟩, ⟨vM_ HO_250000.out⟩, ⟨bT_ BK249.out⟩, ⟨bT_ BK250.out⟩, ⟨beT_⟩⟩
              rw [if_neg c30] at H
              exact absurd H (by simp)
        rw [if_neg c7] at H
        exact absurd H (by simp)
      rw [if_neg c6] at H
      have c6b0 : decide (x8_1 < (l0_1.length : Int)) = false := decide_eq_false c6
      clear c6
      simp only [Option.some.injEq, Prod.mk.injEq] at H
      obtain ⟨rfl, rfl⟩ := H
      have hnb35 := NB249_250.out
      have hnc35 := NB250_249.out
      obtain ⟨hcz36_0, hcz36_1, hfz36_0, hfz36_1⟩ := b2_ BK249.out
      obtain ⟨Ao37, co37, eo37⟩ := Kd.R_slice HO_7.out
      subst eo37
      obtain ⟨hcz38_0, hcz38_1, hfz38_0, hfz38_1⟩ := b2_ BK250.out
      go_wp2
      refine bodyPost_ret (results_cell_row rfl _ _ gb250 25 #[.slice A0_0 l0_0.length c0_0, .slice Ao37 x7_1.length co37] (0, 0) _ rfl (kP_ BK250.out) Try.underlying25 rfl (by kernel_rfl)) rfl ?_
      exact ⟨_, _, r3_, (vF_ HO_250000.out), by (with_reducible repeat (fail)); exact Kd.R_mono (Kd.R_far (p := ⟨gb250, 1, none⟩) (Kd.R_far (p := ⟨gb250, 0, none⟩) (Kd.R_far (p := ⟨gb249, 1, none⟩) (Kd.R_types (Kd.R_types HO_7.out BK249.out (by decide)) BK250.out (by decide)) (fun _ hk => by exact hk.1.2) (.slice Ao37 x7_1.length co37)) (fun _ hk => by exact hk.2) (.slice A0_0 l0_0.length c0_0)) (fun _ hk => by exact hk.2) (.slice Ao37 x7_1.length co37)) (fun _ hk => by exact hk.1.1), beT_⟩

end Go.Proofs.Ytgkjdpdmmlalcaa.F
end
