import Derived.Test.YtjhfglpgpicmiaaVZF0
import Derived.Test.YtjhfglpgpicmiaaVA5
import Derived.Test.YtjhfglpgpicmiaaVA11
import Derived.Test.YtjhfglpgpicmiaaVA24
section
namespace Go.Proofs.Ytjhfglpgpicmiaa.F
open Go.RowKit Go.Proofs.YtjhfglpgpicmiaaW.PrintWords Go.Proofs.YtjhfglpgpicmiaaW.PrintLast Go.Proofs.YtjhfglpgpicmiaaW.PrintMore
attribute [local go_sem] max2_int min2_int max_two min_two max_three min_three max_four min_four
attribute [local go_sem] cell_twice
set_option linter.unusedVariables false
set_option linter.unusedSimpArgs false

def ferryref04_Protect.l0 : Nat → Int → Int → Int → List (S39) → Int → Int → List (S55) → List (S60) → Int → List (S39) → Option ((List (S55)) × (List (S60)) × Int × (List (S39)) × Int)
  | 0, _, _, _, _, _, _, _, _, _, _ => none
  | k + 1, x1, x2, x3, x10, x11, x12, x442000, x442001, x442002, x442003 => if x12 < (x442003.length : Int) then (if 0 ≤ x12 then (if ((rd_T39 x442003 x12).f0) ≥ x1 then (if ((((rd_T39 x442003 x12).f0) - x1) % 4294967296) < x2 then (if x10.length < 8796093022208 then (ferryref04_Protect.l0 k x1 x2 x3 (x10 ++ [(⟨(rd_T39 x442003 x12).f0, x3⟩ : S39)]) ((x11 + 1) % 4294967296) (wrap64 (x12 + 1)) x442000 x442001 x442002 x442003) else (none)) else (if x10.length < 8796093022208 then (ferryref04_Protect.l0 k x1 x2 x3 (x10 ++ [(⟨(rd_T39 x442003 x12).f0, (rd_T39 x442003 x12).f1⟩ : S39)]) x11 (wrap64 (x12 + 1)) x442000 x442001 x442002 x442003) else (none))) else (if x10.length < 8796093022208 then (ferryref04_Protect.l0 k x1 x2 x3 (x10 ++ [(⟨(rd_T39 x442003 x12).f0, (rd_T39 x442003 x12).f1⟩ : S39)]) x11 (wrap64 (x12 + 1)) x442000 x442001 x442002 x442003) else (none))) else (none)) else (if x11 < x2 then (some (x442000, x442001, x442002, x442003, 12)) else (some (x442000, x442001, x442002, x10, 0)))
def ferryref04_Protect.f (k : Nat) (l0_0 : List (S55)) (l0_1 : List (S60)) (a0_2 : Int) (l0_3 : List (S39)) (a1 : Int) (a2 : Int) (a3 : Int) : Option ((List (S55)) × (List (S60)) × Int × (List (S39)) × Int) := (ferryref04_wrong.f a1 a2 a3).bind fun t443 => (if t443 = true then (some (l0_0, l0_1, a0_2, l0_3, 22)) else (ferryref04_Protect.l0 k a1 a2 a3 ([] : List (S39)) 0 0 l0_0 l0_1 a0_2 l0_3))
set_option maxHeartbeats 8000000 in
set_option maxRecDepth 100000 in
theorem ferryref04_Protect.calls (k : Nat) (P0_0_ : Nat → Prop) (A0_0 : Option Addr) (c0_0 : Nat) (l0_0 : List (S55)) (P0_1_ : Nat → Prop) (A0_1 : Option Addr) (c0_1 : Nat) (l0_1 : List (S60)) (a0_2 : Int) (P0_3_ : Nat → Prop) (A0_3 : Option Addr) (c0_3 : Nat) (l0_3 : List (S39)) (a1 : Int) (a2 : Int) (a3 : Int) (r1 : List (S55)) (r2 : List (S60)) (r3 : Int) (r4 : List (S39)) (r5 : Int) (w : World) (hs0_0 : Kd.V k55 55 w w.heap.size (fun k_ => P0_0_ k_) (.slice A0_0 l0_0.length c0_0) l0_0) (hs0_1 : Kd.V k60 60 w w.heap.size (fun k_ => P0_1_ k_) (.slice A0_1 l0_1.length c0_1) l0_1) (hs0_3 : Kd.V k39 39 w w.heap.size (fun k_ => P0_3_ k_) (.slice A0_3 l0_3.length c0_3) l0_3) (h : ferryref04_Protect.f k l0_0 l0_1 a0_2 l0_3 a1 a2 a3 = some (r1, r2, r3, r4, r5)) :
    Calls Try.prog 20 #[.agg #[.slice A0_0 l0_0.length c0_0, .slice A0_1 l0_1.length c0_1, .int .u64 a0_2, .slice A0_3 l0_3.length c0_3], .int .u32 a1, .int .u32 a2, .int .i64 a3] w fun e w' => ∃ v0_ v1_ v3_ : Value, e = .returned (.tuple #[.agg #[v0_, v1_, .int .u64 r3, v3_], .int .i64 r5]) ∧ Kd.V k55 55 w' w.heap.size (fun k_ => ((P0_0_ k_ ∨ P0_1_ k_ ∨ P0_3_ k_) ∨ w.heap.size ≤ k_)) v0_ r1 ∧ Kd.V k60 60 w' w.heap.size (fun k_ => ((P0_0_ k_ ∨ P0_1_ k_ ∨ P0_3_ k_) ∨ w.heap.size ≤ k_)) v1_ r2 ∧ Kd.V k39 39 w' w.heap.size (fun k_ => ((P0_0_ k_ ∨ P0_1_ k_ ∨ P0_3_ k_) ∨ w.heap.size ≤ k_)) v3_ r4 ∧ Below w.heap.size w w' := by
  have hu29 := Try.underlying29
  have hu39 := Try.underlying39
  have HO0_0 := Aside0.mk (show Kd.V k55 55 w w.heap.size (fun k_ => ((P0_0_ k_ ∨ P0_1_ k_ ∨ P0_3_ k_) ∨ w.heap.size ≤ k_)) (.slice A0_0 l0_0.length c0_0) l0_0 from Kd.V_mono hs0_0 (fun k_ hk => .inl (.inl hk)))
  have HO0_1 := Aside0.mk (show Kd.V k60 60 w w.heap.size (fun k_ => ((P0_0_ k_ ∨ P0_1_ k_ ∨ P0_3_ k_) ∨ w.heap.size ≤ k_)) (.slice A0_1 l0_1.length c0_1) l0_1 from Kd.V_mono hs0_1 (fun k_ hk => .inl (.inr (.inl hk))))
  have HO0_3 := Aside0.mk (show Kd.V k39 39 w w.heap.size (fun k_ => ((P0_0_ k_ ∨ P0_1_ k_ ∨ P0_3_ k_) ∨ w.heap.size ≤ k_)) (.slice A0_3 l0_3.length c0_3) l0_3 from Kd.V_mono hs0_3 (fun k_ hk => .inl (.inr (.inr hk))))
  have HB := Aside0.mk (Below.refl w.heap.size w)
  have H : ((ferryref04_wrong.f a1 a2 a3).bind fun t443 => (if t443 = true then (some (l0_0, l0_1, a0_2, l0_3, 22)) else (ferryref04_Protect.l0 k a1 a2 a3 ([] : List (S39)) 0 0 l0_0 l0_1 a0_2 l0_3))) = some (r1, r2, r3, r4, r5) := h
  clear h
  replace H := Option.bind_eq_some_iff.mp H
  obtain ⟨t443, A50, H⟩ := H
  have A5 := Aside0.mk A50
  clear A50
  by_cases c6 : t443 = true
  · subst c6
    replace H := hP_ H
    simp only [Option.some.injEq, Prod.mk.injEq] at H
    obtain ⟨rfl, rfl, rfl, rfl, rfl⟩ := H
    go_enter Try.func20, Try.ntmps20
    go_wp2_with (first | ((with_reducible refine gate_dst (N := 4) rfl ?_); refine bE_ 4 #[.slice A0_0 l0_0.length c0_0, .slice A0_1 l0_1.length c0_1, .int .u64 a0_2, .slice A0_3 l0_3.length c0_3] 29 ?_; intro gb441 hg w7 hbox hb; have BK441 := Aside0.mk hbox; have GW441 := geT_ w.heap.size hg; have GE441 := geT_ w.heap.size hg; replace HO0_0 := vE_ HO0_0.out hg hb; replace HO0_1 := vE_ HO0_1.out hg hb; replace HO0_3 := vE_ HO0_3.out hg hb; replace HB := hB_ hb; clear hb hbox hg) | ((with_reducible refine gate_dst (N := 8) rfl ?_); refine bE_ 8 #[.slice none 0 0, .slice none 0 0, .int .u64 0, .slice none 0 0] 29 ?_; intro gb442 hg w8 hbox hb; have BK442 := Aside0.mk hbox; have GW442 := geT_ w.heap.size hg; have GE442 := geT_ w.heap.size hg; have NB441_442 := nlT_ BK441.out hg; have NB442_441 := ngT_ BK441.out hg; replace HO0_0 := vE_ HO0_0.out hg hb; replace HO0_1 := vE_ HO0_1.out hg hb; replace HO0_3 := vE_ HO0_3.out hg hb; replace BK441 := kB_ BK441 hb; replace HB := hB_ hb; clear hb hbox hg) | ((with_reducible refine gate_callee (f := 41) rfl ?_); refine gL_ (some 17) Try.func41 #[.int .u32 a1, .int .u32 a2, .int .i64 a3] ?_; (with_reducible refine (ferryref04_wrong.calls a1 a2 a3 true _ A5.out).mono ?_); rintro e w' ⟨rfl, ⟨nd, rfl⟩⟩; refine ⟨_, rfl, ?_⟩; (try (rw [drewN_self w8]; generalize hq_ : World.drewN w8 _ = w8; replace HO0_0 : Aside0 (Kd.V k55 55 w8 w.heap.size (fun k_ => ((P0_0_ k_ ∨ P0_1_ k_ ∨ P0_3_ k_) ∨ w.heap.size ≤ k_) ∧ k_ ≠ gb441 ∧ k_ ≠ gb442) (.slice A0_0 l0_0.length c0_0) l0_0) := ⟨by rw [← hq_]; exact (vM_ HO0_0.out)⟩; replace HO0_1 : Aside0 (Kd.V k60 60 w8 w.heap.size (fun k_ => ((P0_0_ k_ ∨ P0_1_ k_ ∨ P0_3_ k_) ∨ w.heap.size ≤ k_) ∧ k_ ≠ gb441 ∧ k_ ≠ gb442) (.slice A0_1 l0_1.length c0_1) l0_1) := ⟨by rw [← hq_]; exact (vM_ HO0_1.out)⟩; replace HO0_3 : Aside0 (Kd.V k39 39 w8 w.heap.size (fun k_ => ((P0_0_ k_ ∨ P0_1_ k_ ∨ P0_3_ k_) ∨ w.heap.size ≤ k_) ∧ k_ ≠ gb441 ∧ k_ ≠ gb442) (.slice A0_3 l0_3.length c0_3) l0_3) := ⟨by rw [← hq_]; exact (vM_ HO0_3.out)⟩; replace BK441 : Aside0 (w8.heap[gb441]? = some (.cells #[.slice A0_0 l0_0.length c0_0, .slice A0_1 l0_1.length c0_1, .int .u64 a0_2, .slice A0_3 l0_3.length c0_3] 29 (0, 0))) := ⟨by rw [← hq_]; exact (bT_ BK441.out)⟩; replace BK442 : Aside0 (w8.heap[gb442]? = some (.cells #[.slice none 0 0, .slice none 0 0, .int .u64 0, .slice none 0 0] 29 (0, 0))) := ⟨by rw [← hq_]; exact (bT_ BK442.out)⟩; replace HB : Aside0 (Below w.heap.size w w8) := ⟨by rw [← hq_]; exact beT_⟩; clear hq_)); have hnb9 := NB441_442.out; have hnc9 := NB442_441.out; obtain ⟨hcz10_0, hcz10_1, hcz10_2, hcz10_3, hfz10_0, hfz10_1, hfz10_2, hfz10_3⟩ := b4_ BK441.out; obtain ⟨hcz11_0, hcz11_1, hcz11_2, hcz11_3, hfz11_0, hfz11_1, hfz11_2, hfz11_3⟩ := b4_ BK442.out))
    refine bodyPost_ret (results_ct rfl _ _ gb442 29 #[.slice A0_0 l0_0.length c0_0, .slice A0_1 l0_1.length c0_1, .int .u64 a0_2, .slice A0_3 l0_3.length c0_3] (0, 0) _ rfl (kP_ BK442.out) Try.underlying29 rfl (by kernel_rfl)) rfl ?_
    exact ⟨_, _, _, r3_, (vF_ HO0_0.out), (vF_ HO0_1.out), (vF_ HO0_3.out), beT_⟩
  replace c6 := Bool.eq_false_iff.mpr c6
  subst c6
  replace H := hN_ H
  have H' := Aside0.mk H
  clear H
  go_enter Try.func20, Try.ntmps20
  go_wp2_with (first | ((with_reducible refine gate_dst (N := 4) rfl ?_); refine bE_ 4 #[.slice A0_0 l0_0.length c0_0, .slice A0_1 l0_1.length c0_1, .int .u64 a0_2, .slice A0_3 l0_3.length c0_3] 29 ?_; intro gb441 hg w12 hbox hb; have BK441 := Aside0.mk hbox; have GW441 := geT_ w.heap.size hg; have GE441 := geT_ w.heap.size hg; replace HO0_0 := vE_ HO0_0.out hg hb; replace HO0_1 := vE_ HO0_1.out hg hb; replace HO0_3 := vE_ HO0_3.out hg hb; replace HB := hB_ hb; clear hb hbox hg) | ((with_reducible refine gate_dst (N := 8) rfl ?_); refine bE_ 8 #[.slice none 0 0, .slice none 0 0, .int .u64 0, .slice none 0 0] 29 ?_; intro gb442 hg w13 hbox hb; have BK442 := Aside0.mk hbox; have GW442 := geT_ w.heap.size hg; have GE442 := geT_ w.heap.size hg; have NB441_442 := nlT_ BK441.out hg; have NB442_441 := ngT_ BK441.out hg; replace HO0_0 := vE_ HO0_0.out hg hb; replace HO0_1 := vE_ HO0_1.out hg hb; replace HO0_3 := vE_ HO0_3.out hg hb; replace BK441 := kB_ BK441 hb; replace HB := hB_ hb; clear hb hbox hg) | ((with_reducible refine gate_callee (f := 41) rfl ?_); refine gL_ (some 17) Try.func41 #[.int .u32 a1, .int .u32 a2, .int .i64 a3] ?_; (with_reducible refine (ferryref04_wrong.calls a1 a2 a3 false _ A5.out).mono ?_); rintro e w' ⟨rfl, ⟨nd, rfl⟩⟩; refine ⟨_, rfl, ?_⟩))
  go_loopg [10, 11, 12] k (fun kq v10 v11 v12 w' => ∃ (x10_1 : List (S39)) (x11_1 : Int) (x12_1 : Int), v11 = .int .u32 x11_1 ∧ v12 = .int .i64 x12_1 ∧ Aside0 (ferryref04_Protect.l0 kq a1 a2 a3 x10_1 x11_1 x12_1 l0_0 l0_1 a0_2 l0_3 = some (r1, r2, r3, r4, r5)) ∧ Aside0 (kq ≤ k) ∧ Aside0 (Kd.R k39 39 w' w.heap.size (fun k_ => (w.heap.size ≤ k_)) v10 x10_1) ∧ Aside0 (Kd.V k55 55 w' w.heap.size (fun k_ => ((P0_0_ k_ ∨ P0_1_ k_ ∨ P0_3_ k_) ∨ w.heap.size ≤ k_) ∧ some k_ ≠ (v10 : Value).ownBlock ∧ k_ ≠ gb441 ∧ k_ ≠ gb442) (.slice A0_0 l0_0.length c0_0) l0_0) ∧ Aside0 (Kd.V k60 60 w' w.heap.size (fun k_ => ((P0_0_ k_ ∨ P0_1_ k_ ∨ P0_3_ k_) ∨ w.heap.size ≤ k_) ∧ some k_ ≠ (v10 : Value).ownBlock ∧ k_ ≠ gb441 ∧ k_ ≠ gb442) (.slice A0_1 l0_1.length c0_1) l0_1) ∧ Aside0 (Kd.V k39 39 w' w.heap.size (fun k_ => ((P0_0_ k_ ∨ P0_1_ k_ ∨ P0_3_ k_) ∨ w.heap.size ≤ k_) ∧ some k_ ≠ (v10 : Value).ownBlock ∧ k_ ≠ gb441 ∧ k_ ≠ gb442) (.slice A0_3 l0_3.length c0_3) l0_3) ∧ Aside0 (w'.heap[gb441]? = some (.cells #[(.slice A0_0 l0_0.length c0_0), (.slice A0_1 l0_1.length c0_1), .int .u64 a0_2, (.slice A0_3 l0_3.length c0_3)] 29 (0, 0))) ∧ Aside0 (w'.heap[gb442]? = some (.cells #[(.slice none 0 0), (.slice none 0 0), .int .u64 0, (.slice none 0 0)] 29 (0, 0))) ∧ Aside0 (Below w.heap.size w w'))
  case atStart => exact ⟨(([] : List (S39))), (0), (0), r1_, r1_, H', ⟨Nat.le_refl _⟩, ⟨by first | exact Kd.R_nil _ _ _ _ _ | exact Kd.N_nil _ _ _ _ _ | exact Kd.V_nil _ _ _ _ _ | exact Kd.Q_nil _ _ _ _ _ | exact Kd.S_nil _ _ _ _ _⟩, ⟨vM_ HO0_0.out⟩, ⟨vM_ HO0_1.out⟩, ⟨vM_ HO0_3.out⟩, ⟨bT_ BK441.out⟩, ⟨bT_ BK442.out⟩, ⟨beT_⟩⟩
  case round =>
    clear H'
    try clear c2
    try clear p2
    try clear c4
    try clear c6
    try clear c9
    try clear hcz10_0
    try clear hcz10_1
    try clear hcz10_2
    try clear hcz10_3
    try clear hcz11_0
    try clear hcz11_1
    try clear hcz11_2
    try clear hcz11_3
    try clear hfz10_0
    try clear hfz10_1
    try clear hfz10_2
    try clear hfz10_3
    try clear hfz11_0
    try clear hfz11_1
    try clear hfz11_2
    try clear hfz11_3
    obtain ⟨x10_1, x11_1, x12_1, rfl, rfl, HA, HK1, HO_10, HO_442000, HO_442001, HO_442003, BK441, BK442, HB⟩ := hrel
    cases gk with
    | zero => exact absurd HA.out (by simp [ferryref04_Protect.l0])
    | succ k1 =>
      have H := HA.out
      clear HA
      simp only [ferryref04_Protect.l0] at H
      by_cases c14 : x12_1 < (l0_3.length : Int)
      · rw [if_pos c14] at H
        have c14b0 : decide (x12_1 < (l0_3.length : Int)) = true := decide_eq_true c14
        clear c14
        by_cases c15 : 0 ≤ x12_1
        · rw [if_pos c15] at H
          have c15b0 : decide (0 ≤ x12_1) = true := decide_eq_true c15
          clear c15
          by_cases c16 : ((rd_T39 l0_3 x12_1).f0) ≥ a1
          · rw [if_pos c16] at H
            have c16b0 : decide (a1 ≤ ((rd_T39 l0_3 x12_1).f0)) = true := decide_eq_true c16
            clear c16
            by_cases c17 : ((((rd_T39 l0_3 x12_1).f0) - a1) % 4294967296) < a2
            · rw [if_pos c17] at H
              have c17b0 : decide (((((rd_T39 l0_3 x12_1).f0) - a1) % 4294967296) < a2) = true := decide_eq_true c17
              (try (have c17bs0 := c17b0; simp only [Int.add_emod_emod, Int.emod_add_emod, Int.sub_emod_emod, Int.emod_sub_emod] at c17bs0))
              clear c17
              by_cases c18 : x10_1.length < 8796093022208
              · rw [if_pos c18] at H
                have LMc18 := Aside0.mk c18
                clear c18
                obtain ⟨y446, hy446⟩ : ∃ y_ : List (S39), y_ = (x10_1 ++ [(⟨(rd_T39 l0_3 x12_1).f0, a3⟩ : S39)]) := ⟨_, rfl⟩
                replace H : (ferryref04_Protect.l0 k1 a1 a2 a3 y446 ((x11_1 + 1) % 4294967296) (wrap64 (x12_1 + 1)) l0_0 l0_1 a0_2 l0_3) = some (r1, r2, r3, r4, r5) := by first | (rw [hy446]; with_reducible exact H) | (have H2_ := (Option.bind_some _ _).symm.trans H; rw [hy446]; with_reducible exact H2_) | (have H2_ := (Option.bind_some _ _).symm.trans H; with_reducible exact H2_) | with_reducible exact H | (rw [hy446]; exact H) | exact H
                have Ny446 := Aside0.mk hy446
                clear hy446
                have H' := Aside0.mk H
                clear H
                have hnb19 := NB441_442.out
                have hnc19 := NB442_441.out
                obtain ⟨hcz20_0, hcz20_1, hcz20_2, hcz20_3, hfz20_0, hfz20_1, hfz20_2, hfz20_3⟩ := b4_ BK441.out
                have p444 : 0 ≤ (x12_1 : Int) := dT_
                have q444 : x12_1 < (l0_3.length : Int) := dT_
                obtain ⟨ad444, e444, hx444_0, hx444_1⟩ := at_T39 (Kd.V_reads' HO_442003.out).2.2 x12_1 p444 q444
                cases e444
                replace p444 := eq_true p444
                replace q444 := eq_true q444
                go_wp2_with (first | ((with_reducible refine gate_dst (N := 13) rfl ?_); refine bE_ 13 #[.int .u32 0, .int .i64 0] 39 ?_; intro gb445 hg w21 hbox hb; have BK445 := Aside0.mk hbox; have GW445 := geT_ w.heap.size hg; have GE445 := geT_ w.heap.size hg; have NB441_445 := nlT_ BK441.out hg; have NB445_441 := ngT_ BK441.out hg; have NB442_445 := nlT_ BK442.out hg; have NB445_442 := ngT_ BK442.out hg; replace HO_10 := rE_ HO_10.out hg hb; replace HO_442000 := vE_ HO_442000.out hg hb; replace HO_442001 := vE_ HO_442001.out hg hb; replace HO_442003 := vE_ HO_442003.out hg hb; replace BK441 := kB_ BK441 hb; replace BK442 := kB_ BK442 hb; replace HB := hB_ hb; clear hb hbox hg; have hnb22 := NB445_441.out; have hnc22 := NB441_445.out; have hnb23 := NB445_442.out; have hnc23 := NB442_445.out; obtain ⟨hcz24_0, hcz24_1, hfz24_0, hfz24_1⟩ := b2_ BK445.out) | ((with_reducible refine gate_builtin (b := .append) (xs := #[.tmp 47, .tmp 49]) rfl ?_); at_builtin; refine Kd.R_append k39 (w0 := w) w.heap.size rfl (.tmp 47) (.tmp 49) 27 39 (.agg #[(.int .u32 0), (.int .i64 0)]) 16 rfl Try.underlying27 info39 rfl (by decide) (by omega) u10 x10_1 (⟨(rd_T39 l0_3 x12_1).f0, a3⟩ : S39) [.int .u32 ((rd_T39 l0_3 x12_1).f0), .int .i64 a3] (fun k_ => (w.heap.size ≤ k_) ∧ k_ ≠ gb445) (fun _ => False) rfl (by first | (go_simp; done) | (go_simp; rfl)) ?aP (fun _ hk => hk.elim) ?aF ?aO ?aB ?aS ?aL ?_; (case aP => exact k39_mkM _ _ _ (⟨(rd_T39 l0_3 x12_1).f0, a3⟩ : S39)); (case aB => exact beT_); (case aF => exact (fun k_ hk => ⟨(Nat.le_trans (below_size beT_) hk), Kd.freshB (g := gb445) (o := .cells #[.int .u32 ((rd_T39 l0_3 x12_1).f0), .int .i64 a3] 39 (0, 0)) (kP_ BK445.out) k_ hk⟩)); (case aO => exact (rF_ HO_10.out)); (case aS => exact (below_size beT_)); (case aL => have := LMc18.out; omega); intro v447 w25 ho hb hg hat; rw [← Ny446.out] at ho; have HO448 := Aside0.mk ho; replace HO_442000 := Aside0.mk (Kd.V_afterv (ok := (fun k_ => ((P0_0_ k_ ∨ P0_1_ k_ ∨ P0_3_ k_) ∨ w.heap.size ≤ k_) ∧ k_ ≠ gb441 ∧ k_ ≠ gb442 ∧ k_ ≠ gb445)) (vF_ HO_442000.out) hg hat); replace HO_442001 := Aside0.mk (Kd.V_afterv (ok := (fun k_ => ((P0_0_ k_ ∨ P0_1_ k_ ∨ P0_3_ k_) ∨ w.heap.size ≤ k_) ∧ k_ ≠ gb441 ∧ k_ ≠ gb442 ∧ k_ ≠ gb445)) (vF_ HO_442001.out) hg hat); replace HO_442003 := Aside0.mk (Kd.V_afterv (ok := (fun k_ => ((P0_0_ k_ ∨ P0_1_ k_ ∨ P0_3_ k_) ∨ w.heap.size ≤ k_) ∧ k_ ≠ gb441 ∧ k_ ≠ gb442 ∧ k_ ≠ gb445)) (vF_ HO_442003.out) hg hat); replace BK441 := kG_ BK441.out hg (Kd.R_ne HO_10.out BK441.out (by decide)); replace BK442 := kG_ BK442.out hg (Kd.R_ne HO_10.out BK442.out (by decide)); replace BK445 := Aside0.mk (blk_grown (g := gb445) (o := .cells #[.int .u32 ((rd_T39 l0_3 x12_1).f0), .int .i64 a3] 39 (0, 0)) (kP_ BK445.out) hg (Kd.R_away HO_10.out (fun _ hk => hk.2))); replace HB := Aside0.mk hb; clear HO_10; clear ho hb hg hat))
                go_roundg k1
                case measure => have := HK1.out; omega
                case rel => exact ⟨(y446), ((x11_1 + 1) % 4294967296), (wrap64 (x12_1 + 1)), r1_, r1_, H', ⟨by have := HK1.out; omega⟩, ⟨rM_ HO448.out⟩, ⟨vM_ HO_442000.out⟩, ⟨vM_ HO_442001.out⟩, ⟨vM_ HO_442003.out⟩, ⟨bT_ BK441.out⟩, ⟨bT_ BK442.out⟩, ⟨beT_⟩⟩
              rw [if_neg c18] at H
              exact absurd H (by simp)
            rw [if_neg c17] at H
            have c17b0 : decide (((((rd_T39 l0_3 x12_1).f0) - a1) % 4294967296) < a2) = false := decide_eq_false c17
            (try (have c17bs0 := c17b0; simp only [Int.add_emod_emod, Int.emod_add_emod, Int.sub_emod_emod, Int.emod_sub_emod] at c17bs0))
            clear c17
            by_cases c26 : x10_1.length < 8796093022208
            · rw [if_pos c26] at H
              have LMc26 := Aside0.mk c26
              clear c26
              obtain ⟨y449, hy449⟩ : ∃ y_ : List (S39), y_ = (x10_1 ++ [(⟨(rd_T39 l0_3 x12_1).f0, (rd_T39 l0_3 x12_1).f1⟩ : S39)]) := ⟨_, rfl⟩
              replace H : (ferryref04_Protect.l0 k1 a1 a2 a3 y449 x11_1 (wrap64 (x12_1 + 1)) l0_0 l0_1 a0_2 l0_3) = some (r1, r2, r3, r4, r5) := by first | (rw [hy449]; with_reducible exact H) | (have H2_ := (Option.bind_some _ _).symm.trans H; rw [hy449]; with_reducible exact H2_) | (have H2_ := (Option.bind_some _ _).symm.trans H; with_reducible exact H2_) | with_reducible exact H | (rw [hy449]; exact H) | exact H
              have Ny449 := Aside0.mk hy449
              clear hy449
              have H' := Aside0.mk H
              clear H
              have hnb27 := NB441_442.out
              have hnc27 := NB442_441.out
              obtain ⟨hcz28_0, hcz28_1, hcz28_2, hcz28_3, hfz28_0, hfz28_1, hfz28_2, hfz28_3⟩ := b4_ BK441.out
              have p444 : 0 ≤ (x12_1 : Int) := dT_
              have q444 : x12_1 < (l0_3.length : Int) := dT_
              obtain ⟨ad444, e444, hx444_0, hx444_1⟩ := at_T39 (Kd.V_reads' HO_442003.out).2.2 x12_1 p444 q444
              cases e444
              replace p444 := eq_true p444
              replace q444 := eq_true q444
              go_wp2_with (first | ((with_reducible refine gate_dst (N := 13) rfl ?_); refine bE_ 13 #[.int .u32 0, .int .i64 0] 39 ?_; intro gb445 hg w29 hbox hb; have BK445 := Aside0.mk hbox; have GW445 := geT_ w.heap.size hg; have GE445 := geT_ w.heap.size hg; have NB441_445 := nlT_ BK441.out hg; have NB445_441 := ngT_ BK441.out hg; have NB442_445 := nlT_ BK442.out hg; have NB445_442 := ngT_ BK442.out hg; replace HO_10 := rE_ HO_10.out hg hb; replace HO_442000 := vE_ HO_442000.out hg hb; replace HO_442001 := vE_ HO_442001.out hg hb; replace HO_442003 := vE_ HO_442003.out hg hb; replace BK441 := kB_ BK441 hb; replace BK442 := kB_ BK442 hb; replace HB := hB_ hb; clear hb hbox hg; have hnb30 := NB445_441.out; have hnc30 := NB441_445.out; have hnb31 := NB445_442.out; have hnc31 := NB442_445.out; obtain ⟨hcz32_0, hcz32_1, hfz32_0, hfz32_1⟩ := b2_ BK445.out) | ((with_reducible refine gate_builtin (b := .append) (xs := #[.tmp 47, .tmp 49]) rfl ?_); at_builtin; refine Kd.R_append k39 (w0 := w) w.heap.size rfl (.tmp 47) (.tmp 49) 27 39 (.agg #[(.int .u32 0), (.int .i64 0)]) 16 rfl Try.underlying27 info39 rfl (by decide) (by omega) u10 x10_1 (⟨(rd_T39 l0_3 x12_1).f0, (rd_T39 l0_3 x12_1).f1⟩ : S39) [.int .u32 ((rd_T39 l0_3 x12_1).f0), .int .i64 ((rd_T39 l0_3 x12_1).f1)] (fun k_ => (w.heap.size ≤ k_) ∧ k_ ≠ gb445) (fun _ => False) rfl (by first | (go_simp; done) | (go_simp; rfl)) ?aP (fun _ hk => hk.elim) ?aF ?aO ?aB ?aS ?aL ?_; (case aP => exact k39_mkM _ _ _ (⟨(rd_T39 l0_3 x12_1).f0, (rd_T39 l0_3 x12_1).f1⟩ : S39)); (case aB => exact beT_); (case aF => exact (fun k_ hk => ⟨(Nat.le_trans (below_size beT_) hk), Kd.freshB (g := gb445) (o := .cells #[.int .u32 ((rd_T39 l0_3 x12_1).f0), .int .i64 ((rd_T39 l0_3 x12_1).f1)] 39 (0, 0)) (kP_ BK445.out) k_ hk⟩)); (case aO => exact (rF_ HO_10.out)); (case aS => exact (below_size beT_)); (case aL => have := LMc26.out; omega); intro v450 w33 ho hb hg hat; rw [← Ny449.out] at ho; have HO451 := Aside0.mk ho; replace HO_442000 := Aside0.mk (Kd.V_afterv (ok := (fun k_ => ((P0_0_ k_ ∨ P0_1_ k_ ∨ P0_3_ k_) ∨ w.heap.size ≤ k_) ∧ k_ ≠ gb441 ∧ k_ ≠ gb442 ∧ k_ ≠ gb445)) (vF_ HO_442000.out) hg hat); replace HO_442001 := Aside0.mk (Kd.V_afterv (ok := (fun k_ => ((P0_0_ k_ ∨ P0_1_ k_ ∨ P0_3_ k_) ∨ w.heap.size ≤ k_) ∧ k_ ≠ gb441 ∧ k_ ≠ gb442 ∧ k_ ≠ gb445)) (vF_ HO_442001.out) hg hat); replace HO_442003 := Aside0.mk (Kd.V_afterv (ok := (fun k_ => ((P0_0_ k_ ∨ P0_1_ k_ ∨ P0_3_ k_) ∨ w.heap.size ≤ k_) ∧ k_ ≠ gb441 ∧ k_ ≠ gb442 ∧ k_ ≠ gb445)) (vF_ HO_442003.out) hg hat); replace BK441 := kG_ BK441.out hg (Kd.R_ne HO_10.out BK441.out (by decide)); replace BK442 := kG_ BK442.out hg (Kd.R_ne HO_10.out BK442.out (by decide)); replace BK445 := Aside0.mk (blk_grown (g := gb445) (o := .cells #[.int .u32 ((rd_T39 l0_3 x12_1).f0), .int .i64 ((rd_T39 l0_3 x12_1).f1)] 39 (0, 0)) (kP_ BK445.out) hg (Kd.R_away HO_10.out (fun _ hk => hk.2))); replace HB := Aside0.mk hb; clear HO_10; clear ho hb hg hat))
              go_roundg k1
              case measure => have := HK1.out; omega
              case rel => exact ⟨(y449), (x11_1), (wrap64 (x12_1 + 1)), r1_, r1_, H', ⟨by have := HK1.out; omega⟩, ⟨rM_ HO451.out⟩, ⟨vM_ HO_442000.out⟩, ⟨vM_ HO_442001.out⟩, ⟨vM_ HO_442003.out⟩, ⟨bT_ BK441.out⟩, ⟨bT_ BK442.out⟩, ⟨beT_⟩⟩
            rw [if_neg c26] at H
            exact absurd H (by simp)
          rw [if_neg c16] at H
          have c16b0 : decide (a1 ≤ ((rd_T39 l0_3 x12_1).f0)) = false := decide_eq_false c16
          clear c16
          by_cases c34 : x10_1.length < 8796093022208
          · rw [if_pos c34] at H
            have LMc34 := Aside0.mk c34
            clear c34
            obtain ⟨y452, hy452⟩ : ∃ y_ : List (S39), y_ = (x10_1 ++ [(⟨(rd_T39 l0_3 x12_1).f0, (rd_T39 l0_3 x12_1).f1⟩ : S39)]) := ⟨_, rfl⟩
            replace H : (ferryref04_Protect.l0 k1 a1 a2 a3 y452 x11_1 (wrap64 (x12_1 + 1)) l0_0 l0_1 a0_2 l0_3) = some (r1, r2, r3, r4, r5) := by first | (rw [hy452]; with_reducible exact H) | (have H2_ := (Option.bind_some _ _).symm.trans H; rw [hy452]; with_reducible exact H2_) | (have H2_ := (Option.bind_some _ _).symm.trans H; with_reducible exact H2_) | with_reducible exact H | (rw [hy452]; exact H) | exact H
            have Ny452 := Aside0.mk hy452
            clear hy452
            have H' := Aside0.mk H
            clear H
            have hnb35 := NB441_442.out
            have hnc35 := NB442_441.out
            obtain ⟨hcz36_0, hcz36_1, hcz36_2, hcz36_3, hfz36_0, hfz36_1, hfz36_2, hfz36_3⟩ := b4_ BK441.out
            have p444 : 0 ≤ (x12_1 : Int) := dT_
            have q444 : x12_1 < (l0_3.length : Int) := dT_
            obtain ⟨ad444, e444, hx444_0, hx444_1⟩ := at_T39 (Kd.V_reads' HO_442003.out).2.2 x12_1 p444 q444
            cases e444
            replace p444 := eq_true p444
            replace q444 := eq_true q444
            go_wp2_with (first | ((with_reducible refine gate_dst (N := 13) rfl ?_); refine bE_ 13 #[.int .u32 0, .int .i64 0] 39 ?_; intro gb445 hg w37 hbox hb; have BK445 := Aside0.mk hbox; have GW445 := geT_ w.heap.size hg; have GE445 := geT_ w.heap.size hg; have NB441_445 := nlT_ BK441.out hg; have NB445_441 := ngT_ BK441.out hg; have NB442_445 := nlT_ BK442.out hg; have NB445_442 := ngT_ BK442.out hg; replace HO_10 := rE_ HO_10.out hg hb; replace HO_442000 := vE_ HO_442000.out hg hb; replace HO_442001 := vE_ HO_442001.out hg hb; replace HO_442003 := vE_ HO_442003.out hg hb; replace BK441 := kB_ BK441 hb; replace BK442 := kB_ BK442 hb; replace HB := hB_ hb; clear hb hbox hg; have hnb38 := NB445_441.out; have hnc38 := NB441_445.out; have hnb39 := NB445_442.out; have hnc39 := NB442_445.out; obtain ⟨hcz40_0, hcz40_1, hfz40_0, hfz40_1⟩ := b2_ BK445.out) | ((with_reducible refine gate_builtin (b := .append) (xs := #[.tmp 47, .tmp 49]) rfl ?_); at_builtin; refine Kd.R_append k39 (w0 := w) w.heap.size rfl (.tmp 47) (.tmp 49) 27 39 (.agg #[(.int .u32 0), (.int .i64 0)]) 16 rfl Try.underlying27 info39 rfl (by decide) (by omega) u10 x10_1 (⟨(rd_T39 l0_3 x12_1).f0, (rd_T39 l0_3 x12_1).f1⟩ : S39) [.int .u32 ((rd_T39 l0_3 x12_1).f0), .int .i64 ((rd_T39 l0_3 x12_1).f1)] (fun k_ => (w.heap.size ≤ k_) ∧ k_ ≠ gb445) (fun _ => False) rfl (by first | (go_simp; done) | (go_simp; rfl)) ?aP (fun _ hk => hk.elim) ?aF ?aO ?aB ?aS ?aL ?_; (case aP => exact k39_mkM _ _ _ (⟨(rd_T39 l0_3 x12_1).f0, (rd_T39 l0_3 x12_1).f1⟩ : S39)); (case aB => exact beT_); (case aF => exact (fun k_ hk => ⟨(Nat.le_trans (below_size beT_) hk), Kd.freshB (g := gb445) (o := .cells #[.int .u32 ((rd_T39 l0_3 x12_1).f0), .int .i64 ((rd_T39 l0_3 x12_1).f1)] 39 (0, 0)) (kP_ BK445.out) k_ hk⟩)); (case aO => exact (rF_ HO_10.out)); (case aS => exact (below_size beT_)); (case aL => have := LMc34.out; omega); intro v453 w41 ho hb hg hat; rw [← Ny452.out] at ho; have HO454 := Aside0.mk ho; replace HO_442000 := Aside0.mk (Kd.V_afterv (ok := (fun k_ => ((P0_0_ k_ ∨ P0_1_ k_ ∨ P0_3_ k_) ∨ w.heap.size ≤ k_) ∧ k_ ≠ gb441 ∧ k_ ≠ gb442 ∧ k_ ≠ gb445)) (vF_ HO_442000.out) hg hat); replace HO_442001 := Aside0.mk (Kd.V_afterv (ok := (fun k_ => ((P0_0_ k_ ∨ P0_1_ k_ ∨ P0_3_ k_) ∨ w.heap.size ≤ k_) ∧ k_ ≠ gb441 ∧ k_ ≠ gb442 ∧ k_ ≠ gb445)) (vF_ HO_442001.out) hg hat); replace HO_442003 := Aside0.mk (Kd.V_afterv (ok := (fun k_ => ((P0_0_ k_ ∨ P0_1_ k_ ∨ P0_3_ k_) ∨ w.heap.size ≤ k_) ∧ k_ ≠ gb441 ∧ k_ ≠ gb442 ∧ k_ ≠ gb445)) (vF_ HO_442003.out) hg hat); replace BK441 := kG_ BK441.out hg (Kd.R_ne HO_10.out BK441.out (by decide)); replace BK442 := kG_ BK442.out hg (Kd.R_ne HO_10.out BK442.out (by decide)); replace BK445 := Aside0.mk (blk_grown (g := gb445) (o := .cells #[.int .u32 ((rd_T39 l0_3 x12_1).f0), .int .i64 ((rd_T39 l0_3 x12_1).f1)] 39 (0, 0)) (kP_ BK445.out) hg (Kd.R_away HO_10.out (fun _ hk => hk.2))); replace HB := Aside0.mk hb; clear HO_10; clear ho hb hg hat))
            go_roundg k1
            case measure => have := HK1.out; omega
            case rel => exact ⟨(y452), (x11_1), (wrap64 (x12_1 + 1)), r1_, r1_, H', ⟨by have := HK1.out; omega⟩, ⟨rM_ HO454.out⟩, ⟨vM_ HO_442000.out⟩, ⟨vM_ HO_442001.out⟩, ⟨vM_ HO_442003.out⟩, ⟨bT_ BK441.out⟩, ⟨bT_ BK442.out⟩, ⟨beT_⟩⟩
          rw [if_neg c34] at H
          exact absurd H (by simp)
        rw [if_neg c15] at H
        exact absurd H (by simp)
      rw [if_neg c14] at H
      have c14b0 : decide (x12_1 < (l0_3.length : Int)) = false := decide_eq_false c14
      clear c14
      by_cases c42 : x11_1 < a2
      · rw [if_pos c42] at H
        have c42b0 : decide (x11_1 < a2) = true := decide_eq_true c42
        clear c42
        simp only [Option.some.injEq, Prod.mk.injEq] at H
        obtain ⟨rfl, rfl, rfl, rfl, rfl⟩ := H
        have hnb43 := NB441_442.out
        have hnc43 := NB442_441.out
        obtain ⟨hcz44_0, hcz44_1, hcz44_2, hcz44_3, hfz44_0, hfz44_1, hfz44_2, hfz44_3⟩ := b4_ BK441.out
        obtain ⟨hcz45_0, hcz45_1, hcz45_2, hcz45_3, hfz45_0, hfz45_1, hfz45_2, hfz45_3⟩ := b4_ BK442.out
        go_wp2
        refine bodyPost_ret (results_ct rfl _ _ gb442 29 #[.slice A0_0 l0_0.length c0_0, .slice A0_1 l0_1.length c0_1, .int .u64 a0_2, .slice A0_3 l0_3.length c0_3] (0, 0) _ rfl (kP_ BK442.out) Try.underlying29 rfl (by kernel_rfl)) rfl ?_
        exact ⟨_, _, _, r3_, (vF_ HO_442000.out), (vF_ HO_442001.out), (vF_ HO_442003.out), beT_⟩
      rw [if_neg c42] at H
      have c42b0 : decide (x11_1 < a2) = false := decide_eq_false c42
      clear c42
      simp only [Option.some.injEq, Prod.mk.injEq] at H
      obtain ⟨rfl, rfl, rfl, rfl, rfl⟩ := H
      have hnb46 := NB441_442.out
      have hnc46 := NB442_441.out
      obtain ⟨hcz47_0, hcz47_1, hcz47_2, hcz47_3, hfz47_0, hfz47_1, hfz47_2, hfz47_3⟩ := b4_ BK441.out
      obtain ⟨Ao48, co48, eo48⟩ := Kd.R_slice HO_10.out
      subst eo48
      obtain ⟨hcz49_0, hcz49_1, hcz49_2, hcz49_3, hfz49_0, hfz49_1, hfz49_2, hfz49_3⟩ := b4_ BK442.out
      go_wp2
      refine bodyPost_ret (results_ct rfl _ _ gb442 29 #[.slice A0_0 l0_0.length c0_0, .slice A0_1 l0_1.length c0_1, .int .u64 a0_2, .slice Ao48 x10_1.length co48] (0, 0) _ rfl (kP_ BK442.out) Try.underlying29 rfl (by kernel_rfl)) rfl ?_
      exact ⟨_, _, _, r3_, (vF_ HO_442000.out), (vF_ HO_442001.out), Kd.V_mono (Kd.R_V (by (with_reducible repeat (first | apply Kd.R_alloc | apply Kd.R_drewN | apply Kd.R_drew)); exact Kd.R_far (p := ⟨gb442, 3, none⟩) (Kd.R_far (p := ⟨gb442, 2, none⟩) (Kd.R_far (p := ⟨gb442, 1, none⟩) (Kd.R_far (p := ⟨gb442, 0, none⟩) (Kd.R_far (p := ⟨gb441, 3, none⟩) (Kd.R_types (Kd.R_types HO_10.out BK441.out (by decide)) BK442.out (by decide)) (fun _ hk => hk.1.2) (.slice Ao48 x10_1.length co48)) (fun _ hk => hk.2) (.slice A0_0 l0_0.length c0_0)) (fun _ hk => hk.2) (.slice A0_1 l0_1.length c0_1)) (fun _ hk => hk.2) (.int .u64 a0_2)) (fun _ hk => hk.2) (.slice Ao48 x10_1.length co48))) (fun k_ hk => by exact .inr hk.1.1), beT_⟩

end Go.Proofs.Ytjhfglpgpicmiaa.F
end
