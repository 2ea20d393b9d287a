import Derived.Test.YtjhfglpgpicmiaaVZF0
import Derived.Test.YtjhfglpgpicmiaaVA5
import Derived.Test.YtjhfglpgpicmiaaVA11
section
namespace Go.Proofs.Ytjhfglpgpicmiaa.F
open Go.RowKit Go.Proofs.YtjhfglpgpicmiaaW.PrintWords Go.Proofs.YtjhfglpgpicmiaaW.PrintLast Go.Proofs.YtjhfglpgpicmiaaW.PrintMore
attribute [local go_sem] max2_int min2_int max_two min_two max_three min_three max_four min_four
attribute [local go_sem] cell_twice
set_option linter.unusedVariables false
set_option linter.unusedSimpArgs false

mutual
def ferryref03_Unmap.l0 : Nat → Int → Int → List (S55) → Int → List (S55) → List (S60) → Option ((List (S55)) × (List (S60)) × Int)
  | 0, _, _, _, _, _, _ => none
  | k + 1, x1, x2, x8, x10, x382000, x382001 => if x10 < (x382000.length : Int) then (if 0 ≤ x10 then (if ((rd_T55 x382000 x10).f0) < x1 then (if x8.length < 8796093022208 then (ferryref03_Unmap.l0 k x1 x2 (x8 ++ [(⟨(rd_T55 x382000 x10).f0, (rd_T55 x382000 x10).f1⟩ : S55)]) (wrap64 (x10 + 1)) x382000 x382001) else (none)) else (if (IntKind.u64.wrap (((rd_T55 x382000 x10).f0) - x1)) ≥ x2 then (if x8.length < 8796093022208 then (ferryref03_Unmap.l0 k x1 x2 (x8 ++ [(⟨(rd_T55 x382000 x10).f0, (rd_T55 x382000 x10).f1⟩ : S55)]) (wrap64 (x10 + 1)) x382000 x382001) else (none)) else (ferryref03_Unmap.l0 k x1 x2 x8 (wrap64 (x10 + 1)) x382000 x382001))) else (none)) else (ferryref03_Unmap.l1 k x1 x2 x8 ([] : List (S60)) 0 x382000 x382001)
def ferryref03_Unmap.l1 : Nat → Int → Int → List (S55) → List (S60) → Int → List (S55) → List (S60) → Option ((List (S55)) × (List (S60)) × Int)
  | 0, _, _, _, _, _, _, _ => none
  | k + 1, x1, x2, x8, x9, x12, x382000, x382001 => if x12 < (x382001.length : Int) then (if 0 ≤ x12 then (if (IntKind.u64.wrap (Int.tdiv ((rd_T60 x382001 x12).f0) 16384)) < x1 then (if x9.length < 8796093022208 then (ferryref03_Unmap.l1 k x1 x2 x8 (x9 ++ [(⟨(rd_T60 x382001 x12).f0, (rd_T60 x382001 x12).f1⟩ : S60)]) (wrap64 (x12 + 1)) x382000 x382001) else (none)) else (if (IntKind.u64.wrap ((IntKind.u64.wrap (Int.tdiv ((rd_T60 x382001 x12).f0) 16384)) - x1)) ≥ x2 then (if x9.length < 8796093022208 then (ferryref03_Unmap.l1 k x1 x2 x8 (x9 ++ [(⟨(rd_T60 x382001 x12).f0, (rd_T60 x382001 x12).f1⟩ : S60)]) (wrap64 (x12 + 1)) x382000 x382001) else (none)) else (ferryref03_Unmap.l1 k x1 x2 x8 x9 (wrap64 (x12 + 1)) x382000 x382001))) else (none)) else (some (x8, x9, 0))
end
def ferryref03_Unmap.f (k : Nat) (l0_0 : List (S55)) (l0_1 : List (S60)) (a1 : Int) (a2 : Int) : Option ((List (S55)) × (List (S60)) × Int) := (ferryref03_wrong.f a1 a2 0).bind fun t383 => (if t383 = true then (some (l0_0, l0_1, 22)) else (ferryref03_Unmap.l0 k a1 a2 ([] : List (S55)) 0 l0_0 l0_1))
set_option maxHeartbeats 8000000 in
set_option maxRecDepth 100000 in
theorem ferryref03_Unmap.calls (k : Nat) (P0_0_ : Nat → Prop) (A0_0 : Option Addr) (c0_0 : Nat) (l0_0 : List (S55)) (P0_1_ : Nat → Prop) (A0_1 : Option Addr) (c0_1 : Nat) (l0_1 : List (S60)) (a1 : Int) (a2 : Int) (r1 : List (S55)) (r2 : List (S60)) (r3 : Int) (w : World) (hs0_0 : Kd.V k55 55 w w.heap.size (fun k_ => P0_0_ k_) (.slice A0_0 l0_0.length c0_0) l0_0) (hs0_1 : Kd.V k60 60 w w.heap.size (fun k_ => P0_1_ k_) (.slice A0_1 l0_1.length c0_1) l0_1) (h : ferryref03_Unmap.f k l0_0 l0_1 a1 a2 = some (r1, r2, r3)) :
    Calls Try.prog 47 #[.agg #[.slice A0_0 l0_0.length c0_0, .slice A0_1 l0_1.length c0_1], .int .u64 a1, .int .u64 a2] w fun e w' => ∃ v0_ v1_ : Value, e = .returned (.tuple #[.agg #[v0_, v1_], .int .i64 r3]) ∧ Kd.V k55 55 w' w.heap.size (fun k_ => ((P0_0_ k_ ∨ P0_1_ k_) ∨ w.heap.size ≤ k_)) v0_ r1 ∧ Kd.V k60 60 w' w.heap.size (fun k_ => ((P0_0_ k_ ∨ P0_1_ k_) ∨ w.heap.size ≤ k_)) v1_ r2 ∧ Below w.heap.size w w' := by
  have hu25 := Try.underlying25
  have hu55 := Try.underlying55
  have hu60 := Try.underlying60
  have HO0_0 := Aside0.mk (show Kd.V k55 55 w w.heap.size (fun k_ => ((P0_0_ k_ ∨ P0_1_ k_) ∨ w.heap.size ≤ k_)) (.slice A0_0 l0_0.length c0_0) l0_0 from Kd.V_mono hs0_0 (fun k_ hk => .inl (.inl hk)))
  have HO0_1 := Aside0.mk (show Kd.V k60 60 w w.heap.size (fun k_ => ((P0_0_ k_ ∨ P0_1_ k_) ∨ w.heap.size ≤ k_)) (.slice A0_1 l0_1.length c0_1) l0_1 from Kd.V_mono hs0_1 (fun k_ hk => .inl (.inr hk)))
  have HB := Aside0.mk (Below.refl w.heap.size w)
  have H : ((ferryref03_wrong.f a1 a2 0).bind fun t383 => (if t383 = true then (some (l0_0, l0_1, 22)) else (ferryref03_Unmap.l0 k a1 a2 ([] : List (S55)) 0 l0_0 l0_1))) = some (r1, r2, r3) := h
  clear h
  replace H := Option.bind_eq_some_iff.mp H
  obtain ⟨t383, A40, H⟩ := H
  have A4 := Aside0.mk A40
  clear A40
  by_cases c5 : t383 = true
  · subst c5
    replace H := hP_ H
    simp only [Option.some.injEq, Prod.mk.injEq] at H
    obtain ⟨rfl, rfl, rfl⟩ := H
    go_enter Try.func47, Try.ntmps47
    go_wp2_with (first | ((with_reducible refine gate_dst (N := 3) rfl ?_); refine bE_ 3 #[.slice A0_0 l0_0.length c0_0, .slice A0_1 l0_1.length c0_1] 25 ?_; intro gb381 hg w6 hbox hb; have BK381 := Aside0.mk hbox; have GW381 := geT_ w.heap.size hg; have GE381 := geT_ w.heap.size hg; replace HO0_0 := vE_ HO0_0.out hg hb; replace HO0_1 := vE_ HO0_1.out hg hb; replace HB := hB_ hb; clear hb hbox hg) | ((with_reducible refine gate_dst (N := 6) rfl ?_); refine bE_ 6 #[.slice none 0 0, .slice none 0 0] 25 ?_; intro gb382 hg w7 hbox hb; have BK382 := Aside0.mk hbox; have GW382 := geT_ w.heap.size hg; have GE382 := geT_ w.heap.size hg; have NB381_382 := nlT_ BK381.out hg; have NB382_381 := ngT_ BK381.out hg; replace HO0_0 := vE_ HO0_0.out hg hb; replace HO0_1 := vE_ HO0_1.out hg hb; replace BK381 := kB_ BK381 hb; replace HB := hB_ hb; clear hb hbox hg) | ((with_reducible refine gate_callee (f := 81) rfl ?_); refine gL_ (some 16) Try.func81 #[.int .u64 a1, .int .u64 a2, .int .i64 0] ?_; (with_reducible refine (ferryref03_wrong.calls a1 a2 0 true _ A4.out).mono ?_); rintro e w' ⟨rfl, ⟨nd, rfl⟩⟩; refine ⟨_, rfl, ?_⟩; (try (rw [drewN_self w7]; generalize hq_ : World.drewN w7 _ = w7; replace HO0_0 : Aside0 (Kd.V k55 55 w7 w.heap.size (fun k_ => ((P0_0_ k_ ∨ P0_1_ k_) ∨ w.heap.size ≤ k_) ∧ k_ ≠ gb381 ∧ k_ ≠ gb382) (.slice A0_0 l0_0.length c0_0) l0_0) := ⟨by rw [← hq_]; exact (vM_ HO0_0.out)⟩; replace HO0_1 : Aside0 (Kd.V k60 60 w7 w.heap.size (fun k_ => ((P0_0_ k_ ∨ P0_1_ k_) ∨ w.heap.size ≤ k_) ∧ k_ ≠ gb381 ∧ k_ ≠ gb382) (.slice A0_1 l0_1.length c0_1) l0_1) := ⟨by rw [← hq_]; exact (vM_ HO0_1.out)⟩; replace BK381 : Aside0 (w7.heap[gb381]? = some (.cells #[.slice A0_0 l0_0.length c0_0, .slice A0_1 l0_1.length c0_1] 25 (0, 0))) := ⟨by rw [← hq_]; exact (bT_ BK381.out)⟩; replace BK382 : Aside0 (w7.heap[gb382]? = some (.cells #[.slice none 0 0, .slice none 0 0] 25 (0, 0))) := ⟨by rw [← hq_]; exact (bT_ BK382.out)⟩; replace HB : Aside0 (Below w.heap.size w w7) := ⟨by rw [← hq_]; exact beT_⟩; clear hq_)); have hnb8 := NB381_382.out; have hnc8 := NB382_381.out; obtain ⟨hcz9_0, hcz9_1, hfz9_0, hfz9_1⟩ := b2_ BK381.out; obtain ⟨hcz10_0, hcz10_1, hfz10_0, hfz10_1⟩ := b2_ BK382.out))
    refine bodyPost_ret (results_ct rfl _ _ gb382 25 #[.slice A0_0 l0_0.length c0_0, .slice A0_1 l0_1.length c0_1] (0, 0) _ rfl (kP_ BK382.out) Try.underlying25 rfl (by kernel_rfl)) rfl ?_
    exact ⟨_, _, r3_, (vF_ HO0_0.out), (vF_ HO0_1.out), beT_⟩
  replace c5 := Bool.eq_false_iff.mpr c5
  subst c5
  replace H := hN_ H
  have H' := Aside0.mk H
  clear H
  go_enter Try.func47, Try.ntmps47
  go_wp2_with (first | ((with_reducible refine gate_dst (N := 3) rfl ?_); refine bE_ 3 #[.slice A0_0 l0_0.length c0_0, .slice A0_1 l0_1.length c0_1] 25 ?_; intro gb381 hg w11 hbox hb; have BK381 := Aside0.mk hbox; have GW381 := geT_ w.heap.size hg; have GE381 := geT_ w.heap.size hg; replace HO0_0 := vE_ HO0_0.out hg hb; replace HO0_1 := vE_ HO0_1.out hg hb; replace HB := hB_ hb; clear hb hbox hg) | ((with_reducible refine gate_dst (N := 6) rfl ?_); refine bE_ 6 #[.slice none 0 0, .slice none 0 0] 25 ?_; intro gb382 hg w12 hbox hb; have BK382 := Aside0.mk hbox; have GW382 := geT_ w.heap.size hg; have GE382 := geT_ w.heap.size hg; have NB381_382 := nlT_ BK381.out hg; have NB382_381 := ngT_ BK381.out hg; replace HO0_0 := vE_ HO0_0.out hg hb; replace HO0_1 := vE_ HO0_1.out hg hb; replace BK381 := kB_ BK381 hb; replace HB := hB_ hb; clear hb hbox hg) | ((with_reducible refine gate_callee (f := 81) rfl ?_); refine gL_ (some 16) Try.func81 #[.int .u64 a1, .int .u64 a2, .int .i64 0] ?_; (with_reducible refine (ferryref03_wrong.calls a1 a2 0 false _ A4.out).mono ?_); rintro e w' ⟨rfl, ⟨nd, rfl⟩⟩; refine ⟨_, rfl, ?_⟩))
  go_loopg [8, 10] k (fun kq v8 v10 w' => ∃ (x8_1 : List (S55)) (x10_1 : Int), v10 = .int .i64 x10_1 ∧ Aside0 (ferryref03_Unmap.l0 kq a1 a2 x8_1 x10_1 l0_0 l0_1 = some (r1, r2, r3)) ∧ Aside0 (kq ≤ k) ∧ Aside0 (Kd.R k55 55 w' w.heap.size (fun k_ => (w.heap.size ≤ k_)) v8 x8_1) ∧ Aside0 (Kd.V k55 55 w' w.heap.size (fun k_ => ((P0_0_ k_ ∨ P0_1_ k_) ∨ w.heap.size ≤ k_) ∧ some k_ ≠ (v8 : Value).ownBlock ∧ k_ ≠ gb381 ∧ k_ ≠ gb382) (.slice A0_0 l0_0.length c0_0) l0_0) ∧ Aside0 (Kd.V k60 60 w' w.heap.size (fun k_ => ((P0_0_ k_ ∨ P0_1_ k_) ∨ w.heap.size ≤ k_) ∧ some k_ ≠ (v8 : Value).ownBlock ∧ k_ ≠ gb381 ∧ k_ ≠ gb382) (.slice A0_1 l0_1.length c0_1) l0_1) ∧ Aside0 (w'.heap[gb381]? = some (.cells #[(.slice A0_0 l0_0.length c0_0), (.slice A0_1 l0_1.length c0_1)] 25 (0, 0))) ∧ Aside0 (w'.heap[gb382]? = some (.cells #[(.slice none 0 0), (.slice none 0 0)] 25 (0, 0))) ∧ Aside0 (Below w.heap.size w w'))
  case atStart => exact ⟨(([] : List (S55))), (0), r1_, H', ⟨Nat.le_refl _⟩, ⟨by first | exact Kd.R_nil _ _ _ _ _ | exact Kd.N_nil _ _ _ _ _ | exact Kd.V_nil _ _ _ _ _ | exact Kd.Q_nil _ _ _ _ _ | exact Kd.S_nil _ _ _ _ _⟩, ⟨vM_ HO0_0.out⟩, ⟨vM_ HO0_1.out⟩, ⟨bT_ BK381.out⟩, ⟨bT_ BK382.out⟩, ⟨beT_⟩⟩
  case round =>
    clear H'
    try clear p2
    try clear c4
    try clear c5
    try clear c8
    try clear hcz10_0
    try clear hcz10_1
    try clear hcz9_0
    try clear hcz9_1
    try clear hfz10_0
    try clear hfz10_1
    try clear hfz9_0
    try clear hfz9_1
    obtain ⟨x8_1, x10_1, rfl, HA, HK1, HO_8, HO_382000, HO_382001, BK381, BK382, HB⟩ := hrel
    cases gk with
    | zero => exact absurd HA.out (by simp [ferryref03_Unmap.l0])
    | succ k1 =>
      have H := HA.out
      clear HA
      simp only [ferryref03_Unmap.l0] at H
      by_cases c13 : x10_1 < (l0_0.length : Int)
      · rw [if_pos c13] at H
        have c13b0 : decide (x10_1 < (l0_0.length : Int)) = true := decide_eq_true c13
        clear c13
        by_cases c14 : 0 ≤ x10_1
        · rw [if_pos c14] at H
          have c14b0 : decide (0 ≤ x10_1) = true := decide_eq_true c14
          clear c14
          by_cases c15 : ((rd_T55 l0_0 x10_1).f0) < a1
          · rw [if_pos c15] at H
            have c15b0 : decide (((rd_T55 l0_0 x10_1).f0) < a1) = true := decide_eq_true c15
            clear c15
            by_cases c16 : x8_1.length < 8796093022208
            · rw [if_pos c16] at H
              have LMc16 := Aside0.mk c16
              clear c16
              obtain ⟨y386, hy386⟩ : ∃ y_ : List (S55), y_ = (x8_1 ++ [(⟨(rd_T55 l0_0 x10_1).f0, (rd_T55 l0_0 x10_1).f1⟩ : S55)]) := ⟨_, rfl⟩
              replace H : (ferryref03_Unmap.l0 k1 a1 a2 y386 (wrap64 (x10_1 + 1)) l0_0 l0_1) = some (r1, r2, r3) := by first | (rw [hy386]; with_reducible exact H) | (have H2_ := (Option.bind_some _ _).symm.trans H; rw [hy386]; with_reducible exact H2_) | (have H2_ := (Option.bind_some _ _).symm.trans H; with_reducible exact H2_) | with_reducible exact H | (rw [hy386]; exact H) | exact H
              have Ny386 := Aside0.mk hy386
              clear hy386
              have H' := Aside0.mk H
              clear H
              have hnb17 := NB381_382.out
              have hnc17 := NB382_381.out
              obtain ⟨hcz18_0, hcz18_1, hfz18_0, hfz18_1⟩ := b2_ BK381.out
              have p384 : 0 ≤ (x10_1 : Int) := dT_
              have q384 : x10_1 < (l0_0.length : Int) := dT_
              obtain ⟨ad384, e384, hx384_0, hx384_1⟩ := at_T55 (Kd.V_reads' HO_382000.out).2.2 x10_1 p384 q384
              cases e384
              replace p384 := eq_true p384
              replace q384 := eq_true q384
              have p385 : 0 ≤ (x10_1 : Int) := dT_
              have q385 : x10_1 < (l0_0.length : Int) := dT_
              obtain ⟨ad385, e385, hx385_0, hx385_1⟩ := at_T55 (Kd.V_reads' HO_382000.out).2.2 x10_1 p385 q385
              obtain rfl : ad384 = ad385 := (by injection e385)
              replace p385 := eq_true p385
              replace q385 := eq_true q385
              go_wp2_with (first | ((with_reducible refine gate_builtin (b := .append) (xs := #[.tmp 41, .tmp 47]) rfl ?_); at_builtin; refine Kd.R_append k55 (w0 := w) w.heap.size rfl (.tmp 41) (.tmp 47) 22 55 (.agg #[(.int .u64 0), (.int .i64 0)]) 16 rfl Try.underlying22 info55 rfl (by decide) (by omega) u8 x8_1 (⟨(rd_T55 l0_0 x10_1).f0, (rd_T55 l0_0 x10_1).f1⟩ : S55) [.int .u64 ((rd_T55 l0_0 x10_1).f0), .int .i64 ((rd_T55 l0_0 x10_1).f1)] (fun k_ => (w.heap.size ≤ k_)) (fun _ => False) rfl rfl ?aP (fun _ hk => hk.elim) ?aF ?aO ?aB ?aS ?aL ?_; (case aP => exact k55_mkM _ _ _ (⟨(rd_T55 l0_0 x10_1).f0, (rd_T55 l0_0 x10_1).f1⟩ : S55)); (case aB => exact beT_); (case aF => exact (fun k_ hk => (Nat.le_trans (below_size beT_) hk))); (case aO => exact (rT_ HO_8.out)); (case aS => exact (below_size beT_)); (case aL => have := LMc16.out; omega); intro v387 w19 ho hb hg hat; rw [← Ny386.out] at ho; have HO388 := Aside0.mk ho; replace HO_382000 := Aside0.mk (Kd.V_afterv (ok := (fun k_ => ((P0_0_ k_ ∨ P0_1_ k_) ∨ w.heap.size ≤ k_) ∧ k_ ≠ gb381 ∧ k_ ≠ gb382)) (vM_ HO_382000.out) hg hat); replace HO_382001 := Aside0.mk (Kd.V_afterv (ok := (fun k_ => ((P0_0_ k_ ∨ P0_1_ k_) ∨ w.heap.size ≤ k_) ∧ k_ ≠ gb381 ∧ k_ ≠ gb382)) (vM_ HO_382001.out) hg hat); replace BK381 := kG_ BK381.out hg (Kd.R_ne HO_8.out BK381.out (by decide)); replace BK382 := kG_ BK382.out hg (Kd.R_ne HO_8.out BK382.out (by decide)); replace HB := Aside0.mk hb; clear HO_8; clear ho hb hg hat))
              go_roundg k1
              case measure => have := HK1.out; omega
              case rel => exact ⟨(y386), (wrap64 (x10_1 + 1)), r1_, H', ⟨by have := HK1.out; omega⟩, ⟨rT_ HO388.out⟩, ⟨vM_ HO_382000.out⟩, ⟨vM_ HO_382001.out⟩, ⟨bT_ BK381.out⟩, ⟨bT_ BK382.out⟩, ⟨beT_⟩⟩
            rw [if_neg c16] at H
            exact absurd H (by simp)
          rw [if_neg c15] at H
          have c15b0 : decide (((rd_T55 l0_0 x10_1).f0) < a1) = false := decide_eq_false c15
          clear c15
          by_cases c20 : (IntKind.u64.wrap (((rd_T55 l0_0 x10_1).f0) - a1)) ≥ a2
          · rw [if_pos c20] at H
            have c20b0 : decide (a2 ≤ (IntKind.u64.wrap (((rd_T55 l0_0 x10_1).f0) - a1))) = true := decide_eq_true c20
            clear c20
            by_cases c21 : x8_1.length < 8796093022208
            · rw [if_pos c21] at H
              have LMc21 := Aside0.mk c21
              clear c21
              obtain ⟨y390, hy390⟩ : ∃ y_ : List (S55), y_ = (x8_1 ++ [(⟨(rd_T55 l0_0 x10_1).f0, (rd_T55 l0_0 x10_1).f1⟩ : S55)]) := ⟨_, rfl⟩
              replace H : (ferryref03_Unmap.l0 k1 a1 a2 y390 (wrap64 (x10_1 + 1)) l0_0 l0_1) = some (r1, r2, r3) := by first | (rw [hy390]; with_reducible exact H) | (have H2_ := (Option.bind_some _ _).symm.trans H; rw [hy390]; with_reducible exact H2_) | (have H2_ := (Option.bind_some _ _).symm.trans H; with_reducible exact H2_) | with_reducible exact H | (rw [hy390]; exact H) | exact H
              have Ny390 := Aside0.mk hy390
              clear hy390
              have H' := Aside0.mk H
              clear H
              have hnb22 := NB381_382.out
              have hnc22 := NB382_381.out
              obtain ⟨hcz23_0, hcz23_1, hfz23_0, hfz23_1⟩ := b2_ BK381.out
              have p384 : 0 ≤ (x10_1 : Int) := dT_
              have q384 : x10_1 < (l0_0.length : Int) := dT_
              obtain ⟨ad384, e384, hx384_0, hx384_1⟩ := at_T55 (Kd.V_reads' HO_382000.out).2.2 x10_1 p384 q384
              cases e384
              replace p384 := eq_true p384
              replace q384 := eq_true q384
              have p389 : 0 ≤ (x10_1 : Int) := dT_
              have q389 : x10_1 < (l0_0.length : Int) := dT_
              obtain ⟨ad389, e389, hx389_0, hx389_1⟩ := at_T55 (Kd.V_reads' HO_382000.out).2.2 x10_1 p389 q389
              obtain rfl : ad384 = ad389 := (by injection e389)
              replace p389 := eq_true p389
              replace q389 := eq_true q389
              go_wp2_with (first | ((with_reducible refine gate_builtin (b := .append) (xs := #[.tmp 41, .tmp 47]) rfl ?_); at_builtin; refine Kd.R_append k55 (w0 := w) w.heap.size rfl (.tmp 41) (.tmp 47) 22 55 (.agg #[(.int .u64 0), (.int .i64 0)]) 16 rfl Try.underlying22 info55 rfl (by decide) (by omega) u8 x8_1 (⟨(rd_T55 l0_0 x10_1).f0, (rd_T55 l0_0 x10_1).f1⟩ : S55) [.int .u64 ((rd_T55 l0_0 x10_1).f0), .int .i64 ((rd_T55 l0_0 x10_1).f1)] (fun k_ => (w.heap.size ≤ k_)) (fun _ => False) rfl rfl ?aP (fun _ hk => hk.elim) ?aF ?aO ?aB ?aS ?aL ?_; (case aP => exact k55_mkM _ _ _ (⟨(rd_T55 l0_0 x10_1).f0, (rd_T55 l0_0 x10_1).f1⟩ : S55)); (case aB => exact beT_); (case aF => exact (fun k_ hk => (Nat.le_trans (below_size beT_) hk))); (case aO => exact (rT_ HO_8.out)); (case aS => exact (below_size beT_)); (case aL => have := LMc21.out; omega); intro v391 w24 ho hb hg hat; rw [← Ny390.out] at ho; have HO392 := Aside0.mk ho; replace HO_382000 := Aside0.mk (Kd.V_afterv (ok := (fun k_ => ((P0_0_ k_ ∨ P0_1_ k_) ∨ w.heap.size ≤ k_) ∧ k_ ≠ gb381 ∧ k_ ≠ gb382)) (vM_ HO_382000.out) hg hat); replace HO_382001 := Aside0.mk (Kd.V_afterv (ok := (fun k_ => ((P0_0_ k_ ∨ P0_1_ k_) ∨ w.heap.size ≤ k_) ∧ k_ ≠ gb381 ∧ k_ ≠ gb382)) (vM_ HO_382001.out) hg hat); replace BK381 := kG_ BK381.out hg (Kd.R_ne HO_8.out BK381.out (by decide)); replace BK382 := kG_ BK382.out hg (Kd.R_ne HO_8.out BK382.out (by decide)); replace HB := Aside0.mk hb; clear HO_8; clear ho hb hg hat))
              go_roundg k1
              case measure => have := HK1.out; omega
              case rel => exact ⟨(y390), (wrap64 (x10_1 + 1)), r1_, H', ⟨by have := HK1.out; omega⟩, ⟨rT_ HO392.out⟩, ⟨vM_ HO_382000.out⟩, ⟨vM_ HO_382001.out⟩, ⟨bT_ BK381.out⟩, ⟨bT_ BK382.out⟩, ⟨beT_⟩⟩
            rw [if_neg c21] at H
            exact absurd H (by simp)
          rw [if_neg c20] at H
          have c20b0 : decide (a2 ≤ (IntKind.u64.wrap (((rd_T55 l0_0 x10_1).f0) - a1))) = false := decide_eq_false c20
          clear c20
          have H' := Aside0.mk H
          clear H
          have hnb25 := NB381_382.out
          have hnc25 := NB382_381.out
          obtain ⟨hcz26_0, hcz26_1, hfz26_0, hfz26_1⟩ := b2_ BK381.out
          have p384 : 0 ≤ (x10_1 : Int) := dT_
          have q384 : x10_1 < (l0_0.length : Int) := dT_
          obtain ⟨ad384, e384, hx384_0, hx384_1⟩ := at_T55 (Kd.V_reads' HO_382000.out).2.2 x10_1 p384 q384
          cases e384
          replace p384 := eq_true p384
          replace q384 := eq_true q384
          go_wp2
          go_roundg k1
          case measure => have := HK1.out; omega
          case rel => exact ⟨(x8_1), (wrap64 (x10_1 + 1)), r1_, H', ⟨by have := HK1.out; omega⟩, ⟨rT_ HO_8.out⟩, ⟨vT_ HO_382000.out⟩, ⟨vT_ HO_382001.out⟩, ⟨bT_ BK381.out⟩, ⟨bT_ BK382.out⟩, ⟨beT_⟩⟩
        rw [if_neg c14] at H
        exact absurd H (by simp)
      rw [if_neg c13] at H
      have c13b0 : decide (x10_1 < (l0_0.length : Int)) = false := decide_eq_false c13
      clear c13
      have H' := Aside0.mk H
      clear H
      have hnb27 := NB381_382.out
      have hnc27 := NB382_381.out
      obtain ⟨hcz28_0, hcz28_1, hfz28_0, hfz28_1⟩ := b2_ BK381.out
      go_wp2
      go_loopg [9, 12] k1 (fun kq v9 v12 w' => ∃ (x9_2 : List (S60)) (x12_2 : Int), v12 = .int .i64 x12_2 ∧ Aside0 (ferryref03_Unmap.l1 kq a1 a2 x8_1 x9_2 x12_2 l0_0 l0_1 = some (r1, r2, r3)) ∧ Aside0 (kq ≤ k1) ∧ Aside0 (Kd.R k55 55 w' w.heap.size (fun k_ => (w.heap.size ≤ k_)) u8 x8_1) ∧ Aside0 (Kd.R k60 60 w' w.heap.size (fun k_ => (w.heap.size ≤ k_)) v9 x9_2) ∧ Aside0 (Kd.V k55 55 w' w.heap.size (fun k_ => ((P0_0_ k_ ∨ P0_1_ k_) ∨ w.heap.size ≤ k_) ∧ some k_ ≠ (u8 : Value).ownBlock ∧ some k_ ≠ (v9 : Value).ownBlock ∧ k_ ≠ gb381 ∧ k_ ≠ gb382) (.slice A0_0 l0_0.length c0_0) l0_0) ∧ Aside0 (Kd.V k60 60 w' w.heap.size (fun k_ => ((P0_0_ k_ ∨ P0_1_ k_) ∨ w.heap.size ≤ k_) ∧ some k_ ≠ (u8 : Value).ownBlock ∧ some k_ ≠ (v9 : Value).ownBlock ∧ k_ ≠ gb381 ∧ k_ ≠ gb382) (.slice A0_1 l0_1.length c0_1) l0_1) ∧ Aside0 (w'.heap[gb381]? = some (.cells #[(.slice A0_0 l0_0.length c0_0), (.slice A0_1 l0_1.length c0_1)] 25 (0, 0))) ∧ Aside0 (w'.heap[gb382]? = some (.cells #[(.slice none 0 0), (.slice none 0 0)] 25 (0, 0))) ∧ Aside0 (Below w.heap.size w w'))
      case atStart => exact ⟨(([] : List (S60))), (0), r1_, H', ⟨Nat.le_refl _⟩, ⟨rT_ HO_8.out⟩, ⟨by first | exact Kd.R_nil _ _ _ _ _ | exact Kd.N_nil _ _ _ _ _ | exact Kd.V_nil _ _ _ _ _ | exact Kd.Q_nil _ _ _ _ _ | exact Kd.S_nil _ _ _ _ _⟩, ⟨vM_ HO_382000.out⟩, ⟨vM_ HO_382001.out⟩, ⟨bT_ BK381.out⟩, ⟨bT_ BK382.out⟩, ⟨beT_⟩⟩
      case round =>
        clear H'
        try clear c1
        try clear c2
        try clear p2
        try clear p3
        try clear q3
        try clear hx3
        try clear c4
        try clear c5
        try clear p6
        try clear c8
        try clear c13
        try clear c13b0
        try clear c14
        try clear c14b0
        try clear c15
        try clear c15b0
        try clear c16
        try clear c17
        try clear c20
        try clear c20b0
        try clear c21
        try clear c22
        try clear c25
        try clear c27
        try clear hcz10_0
        try clear hcz10_1
        try clear hcz18_0
        try clear hcz18_1
        try clear hcz23_0
        try clear hcz23_1
        try clear hcz26_0
        try clear hcz26_1
        try clear hcz28_0
        try clear hcz28_1
        try clear hcz9_0
        try clear hcz9_1
        try clear hfz10_0
        try clear hfz10_1
        try clear hfz18_0
        try clear hfz18_1
        try clear hfz23_0
        try clear hfz23_1
        try clear hfz26_0
        try clear hfz26_1
        try clear hfz28_0
        try clear hfz28_1
        try clear hfz9_0
        try clear hfz9_1
        try clear hx384_0
        try clear hx384_1
        try clear hx385_0
        try clear hx385_1
        try clear hx389_0
        try clear hx389_1
        try clear p2
        try clear p384
        try clear p385
        try clear p389
        try clear q384
        try clear q385
        try clear q389
        obtain ⟨x9_2, x12_2, rfl, HA, HK2, HO_8, HO_9, HO_382000, HO_382001, BK381, BK382, HB⟩ := hrel
        cases gk with
        | zero => exact absurd HA.out (by simp [ferryref03_Unmap.l1])
        | succ k2 =>
          have H := HA.out
          clear HA
          simp only [ferryref03_Unmap.l1] at H
          by_cases c29 : x12_2 < (l0_1.length : Int)
          · rw [if_pos c29] at H
            have c29b0 : decide (x12_2 < (l0_1.length : Int)) = true := decide_eq_true c29
            clear c29
            by_cases c30 : 0 ≤ x12_2
            · rw [if_pos c30] at H
              have c30b0 : decide (0 ≤ x12_2) = true := decide_eq_true c30
              clear c30
              by_cases c31 : (IntKind.u64.wrap (Int.tdiv ((rd_T60 l0_1 x12_2).f0) 16384)) < a1
              · rw [if_pos c31] at H
                have c31b0 : decide ((IntKind.u64.wrap (Int.tdiv ((rd_T60 l0_1 x12_2).f0) 16384)) < a1) = true := decide_eq_true c31
                clear c31
                by_cases c32 : x9_2.length < 8796093022208
                · rw [if_pos c32] at H
                  have LMc32 := Aside0.mk c32
                  clear c32
                  obtain ⟨y395, hy395⟩ : ∃ y_ : List (S60), y_ = (x9_2 ++ [(⟨(rd_T60 l0_1 x12_2).f0, (rd_T60 l0_1 x12_2).f1⟩ : S60)]) := ⟨_, rfl⟩
                  replace H : (ferryref03_Unmap.l1 k2 a1 a2 x8_1 y395 (wrap64 (x12_2 + 1)) l0_0 l0_1) = some (r1, r2, r3) := by first | (rw [hy395]; with_reducible exact H) | (have H2_ := (Option.bind_some _ _).symm.trans H; rw [hy395]; with_reducible exact H2_) | (have H2_ := (Option.bind_some _ _).symm.trans H; with_reducible exact H2_) | with_reducible exact H | (rw [hy395]; exact H) | exact H
                  have Ny395 := Aside0.mk hy395
                  clear hy395
                  have H' := Aside0.mk H
                  clear H
                  have hnb33 := NB381_382.out
                  have hnc33 := NB382_381.out
                  obtain ⟨hcz34_0, hcz34_1, hfz34_0, hfz34_1⟩ := b2_ BK381.out
                  have p393 : 0 ≤ (x12_2 : Int) := dT_
                  have q393 : x12_2 < (l0_1.length : Int) := dT_
                  obtain ⟨ad393, e393, hx393_0, hx393_1⟩ := at_T60 (Kd.V_reads' HO_382001.out).2.2 x12_2 p393 q393
                  cases e393
                  replace p393 := eq_true p393
                  replace q393 := eq_true q393
                  have p394 : 0 ≤ (x12_2 : Int) := dT_
                  have q394 : x12_2 < (l0_1.length : Int) := dT_
                  obtain ⟨ad394, e394, hx394_0, hx394_1⟩ := at_T60 (Kd.V_reads' HO_382001.out).2.2 x12_2 p394 q394
                  obtain rfl : ad393 = ad394 := (by injection e394)
                  replace p394 := eq_true p394
                  replace q394 := eq_true q394
                  go_wp2_with (first | ((with_reducible refine gate_builtin (b := .append) (xs := #[.tmp 73, .tmp 79]) rfl ?_); at_builtin; refine Kd.R_append k60 (w0 := w) w.heap.size rfl (.tmp 73) (.tmp 79) 23 60 (.agg #[(.int .u64 0), (.int .u64 0)]) 16 rfl Try.underlying23 info60 rfl (by decide) (by omega) u9 x9_2 (⟨(rd_T60 l0_1 x12_2).f0, (rd_T60 l0_1 x12_2).f1⟩ : S60) [.int .u64 ((rd_T60 l0_1 x12_2).f0), .int .u64 ((rd_T60 l0_1 x12_2).f1)] (fun k_ => (w.heap.size ≤ k_)) (fun _ => False) rfl rfl ?aP (fun _ hk => hk.elim) ?aF ?aO ?aB ?aS ?aL ?_; (case aP => exact k60_mkM _ _ _ (⟨(rd_T60 l0_1 x12_2).f0, (rd_T60 l0_1 x12_2).f1⟩ : S60)); (case aB => exact beT_); (case aF => exact (fun k_ hk => (Nat.le_trans (below_size beT_) hk))); (case aO => exact (rT_ HO_9.out)); (case aS => exact (below_size beT_)); (case aL => have := LMc32.out; omega); intro v396 w35 ho hb hg hat; rw [← Ny395.out] at ho; have HO397 := Aside0.mk ho; replace HO_8 := Aside0.mk (Kd.R_over' (rT_ HO_8.out) (Kd.R_typed (rT_ HO_9.out)) (by decide) hg); replace HO_382000 := Aside0.mk (Kd.V_afterv (ok := (fun k_ => ((P0_0_ k_ ∨ P0_1_ k_) ∨ w.heap.size ≤ k_) ∧ some k_ ≠ (u8 : Value).ownBlock ∧ k_ ≠ gb381 ∧ k_ ≠ gb382)) (vM_ HO_382000.out) hg hat); replace HO_382001 := Aside0.mk (Kd.V_afterv (ok := (fun k_ => ((P0_0_ k_ ∨ P0_1_ k_) ∨ w.heap.size ≤ k_) ∧ some k_ ≠ (u8 : Value).ownBlock ∧ k_ ≠ gb381 ∧ k_ ≠ gb382)) (vM_ HO_382001.out) hg hat); replace BK381 := kG_ BK381.out hg (Kd.R_ne HO_9.out BK381.out (by decide)); replace BK382 := kG_ BK382.out hg (Kd.R_ne HO_9.out BK382.out (by decide)); replace HB := Aside0.mk hb; clear HO_9; clear ho hb hg hat))
                  go_roundg k2
                  case measure => have := HK1.out; have := HK2.out; omega
                  case rel => exact ⟨(y395), (wrap64 (x12_2 + 1)), r1_, H', ⟨by have := HK1.out; have := HK2.out; omega⟩, ⟨rT_ HO_8.out⟩, ⟨rT_ HO397.out⟩, ⟨vM_ HO_382000.out⟩, ⟨vM_ HO_382001.out⟩, ⟨bT_ BK381.out⟩, ⟨bT_ BK382.out⟩, ⟨beT_⟩⟩
                rw [if_neg c32] at H
                exact absurd H (by simp)
              rw [if_neg c31] at H
              have c31b0 : decide ((IntKind.u64.wrap (Int.tdiv ((rd_T60 l0_1 x12_2).f0) 16384)) < a1) = false := decide_eq_false c31
              clear c31
              by_cases c36 : (IntKind.u64.wrap ((IntKind.u64.wrap (Int.tdiv ((rd_T60 l0_1 x12_2).f0) 16384)) - a1)) ≥ a2
              · rw [if_pos c36] at H
                have c36b0 : decide (a2 ≤ (IntKind.u64.wrap ((IntKind.u64.wrap (Int.tdiv ((rd_T60 l0_1 x12_2).f0) 16384)) - a1))) = true := decide_eq_true c36
                clear c36
                by_cases c37 : x9_2.length < 8796093022208
                · rw [if_pos c37] at H
                  have LMc37 := Aside0.mk c37
                  clear c37
                  obtain ⟨y399, hy399⟩ : ∃ y_ : List (S60), y_ = (x9_2 ++ [(⟨(rd_T60 l0_1 x12_2).f0, (rd_T60 l0_1 x12_2).f1⟩ : S60)]) := ⟨_, rfl⟩
                  replace H : (ferryref03_Unmap.l1 k2 a1 a2 x8_1 y399 (wrap64 (x12_2 + 1)) l0_0 l0_1) = some (r1, r2, r3) := by first | (rw [hy399]; with_reducible exact H) | (have H2_ := (Option.bind_some _ _).symm.trans H; rw [hy399]; with_reducible exact H2_) | (have H2_ := (Option.bind_some _ _).symm.trans H; with_reducible exact H2_) | with_reducible exact H | (rw [hy399]; exact H) | exact H
                  have Ny399 := Aside0.mk hy399
                  clear hy399
                  have H' := Aside0.mk H
                  clear H
                  have hnb38 := NB381_382.out
                  have hnc38 := NB382_381.out
                  obtain ⟨hcz39_0, hcz39_1, hfz39_0, hfz39_1⟩ := b2_ BK381.out
                  have p393 : 0 ≤ (x12_2 : Int) := dT_
                  have q393 : x12_2 < (l0_1.length : Int) := dT_
                  obtain ⟨ad393, e393, hx393_0, hx393_1⟩ := at_T60 (Kd.V_reads' HO_382001.out).2.2 x12_2 p393 q393
                  cases e393
                  replace p393 := eq_true p393
                  replace q393 := eq_true q393
                  have p398 : 0 ≤ (x12_2 : Int) := dT_
                  have q398 : x12_2 < (l0_1.length : Int) := dT_
                  obtain ⟨ad398, e398, hx398_0, hx398_1⟩ := at_T60 (Kd.V_reads' HO_382001.out).2.2 x12_2 p398 q398
                  obtain rfl : ad393 = ad398 := (by injection e398)
                  replace p398 := eq_true p398
                  replace q398 := eq_true q398
                  go_wp2_with (first | ((with_reducible refine gate_builtin (b := .append) (xs := #[.tmp 73, .tmp 79]) rfl ?_); at_builtin; refine Kd.R_append k60 (w0 := w) w.heap.size rfl (.tmp 73) (.tmp 79) 23 60 (.agg #[(.int .u64 0), (.int .u64 0)]) 16 rfl Try.underlying23 info60 rfl (by decide) (by omega) u9 x9_2 (⟨(rd_T60 l0_1 x12_2).f0, (rd_T60 l0_1 x12_2).f1⟩ : S60) [.int .u64 ((rd_T60 l0_1 x12_2).f0), .int .u64 ((rd_T60 l0_1 x12_2).f1)] (fun k_ => (w.heap.size ≤ k_)) (fun _ => False) rfl rfl ?aP (fun _ hk => hk.elim) ?aF ?aO ?aB ?aS ?aL ?_; (case aP => exact k60_mkM _ _ _ (⟨(rd_T60 l0_1 x12_2).f0, (rd_T60 l0_1 x12_2).f1⟩ : S60)); (case aB => exact beT_); (case aF => exact (fun k_ hk => (Nat.le_trans (below_size beT_) hk))); (case aO => exact (rT_ HO_9.out)); (case aS => exact (below_size beT_)); (case aL => have := LMc37.out; omega); intro v400 w40 ho hb hg hat; rw [← Ny399.out] at ho; have HO401 := Aside0.mk ho; replace HO_8 := Aside0.mk (Kd.R_over' (rT_ HO_8.out) (Kd.R_typed (rT_ HO_9.out)) (by decide) hg); replace HO_382000 := Aside0.mk (Kd.V_afterv (ok := (fun k_ => ((P0_0_ k_ ∨ P0_1_ k_) ∨ w.heap.size ≤ k_) ∧ some k_ ≠ (u8 : Value).ownBlock ∧ k_ ≠ gb381 ∧ k_ ≠ gb382)) (vM_ HO_382000.out) hg hat); replace HO_382001 := Aside0.mk (Kd.V_afterv (ok := (fun k_ => ((P0_0_ k_ ∨ P0_1_ k_) ∨ w.heap.size ≤ k_) ∧ some k_ ≠ (u8 : Value).ownBlock ∧ k_ ≠ gb381 ∧ k_ ≠ gb382)) (vM_ HO_382001.out) hg hat); replace BK381 := kG_ BK381.out hg (Kd.R_ne HO_9.out BK381.out (by decide)); replace BK382 := kG_ BK382.out hg (Kd.R_ne HO_9.out BK382.out (by decide)); replace HB := Aside0.mk hb; clear HO_9; clear ho hb hg hat))
                  go_roundg k2
                  case measure => have := HK1.out; have := HK2.out; omega
                  case rel => exact ⟨(y399), (wrap64 (x12_2 + 1)), r1_, H', ⟨by have := HK1.out; have := HK2.out; omega⟩, ⟨rT_ HO_8.out⟩, ⟨rT_ HO401.out⟩, ⟨vM_ HO_382000.out⟩, ⟨vM_ HO_382001.out⟩, ⟨bT_ BK381.out⟩, ⟨bT_ BK382.out⟩, ⟨beT_⟩⟩
                rw [if_neg c37] at H
                exact absurd H (by simp)
              rw [if_neg c36] at H
              have c36b0 : decide (a2 ≤ (IntKind.u64.wrap ((IntKind.u64.wrap (Int.tdiv ((rd_T60 l0_1 x12_2).f0) 16384)) - a1))) = false := decide_eq_false c36
              clear c36
              have H' := Aside0.mk H
              clear H
              have hnb41 := NB381_382.out
              have hnc41 := NB382_381.out
              obtain ⟨hcz42_0, hcz42_1, hfz42_0, hfz42_1⟩ := b2_ BK381.out
              have p393 : 0 ≤ (x12_2 : Int) := dT_
              have q393 : x12_2 < (l0_1.length : Int) := dT_
              obtain ⟨ad393, e393, hx393_0, hx393_1⟩ := at_T60 (Kd.V_reads' HO_382001.out).2.2 x12_2 p393 q393
              cases e393
              replace p393 := eq_true p393
              replace q393 := eq_true q393
              go_wp2
              go_roundg k2
              case measure => have := HK1.out; have := HK2.out; omega
              case rel => exact ⟨(x9_2), (wrap64 (x12_2 + 1)), r1_, H', ⟨by have := HK1.out; have := HK2.out; omega⟩, ⟨rT_ HO_8.out⟩, ⟨rT_ HO_9.out⟩, ⟨vT_ HO_382000.out⟩, ⟨vT_ HO_382001.out⟩, ⟨bT_ BK381.out⟩, ⟨bT_ BK382.out⟩, ⟨beT_⟩⟩
            rw [if_neg c30] at H
            exact absurd H (by simp)
          rw [if_neg c29] at H
          have c29b0 : decide (x12_2 < (l0_1.length : Int)) = false := decide_eq_false c29
          clear c29
          simp only [Option.some.injEq, Prod.mk.injEq] at H
          obtain ⟨rfl, rfl, rfl⟩ := H
          have hnb43 := NB381_382.out
          have hnc43 := NB382_381.out
          obtain ⟨hcz44_0, hcz44_1, hfz44_0, hfz44_1⟩ := b2_ BK381.out
          obtain ⟨Ao45, co45, eo45⟩ := Kd.R_slice HO_9.out
          subst eo45
          obtain ⟨Ao46, co46, eo46⟩ := Kd.R_slice HO_8.out
          subst eo46
          obtain ⟨hcz47_0, hcz47_1, hfz47_0, hfz47_1⟩ := b2_ BK382.out
          go_wp2
          refine bodyPost_ret (results_ct rfl _ _ gb382 25 #[.slice Ao46 x8_1.length co46, .slice Ao45 x9_2.length co45] (0, 0) _ rfl (kP_ BK382.out) Try.underlying25 rfl (by kernel_rfl)) rfl ?_
          exact ⟨_, _, r3_, Kd.V_mono (Kd.R_V (by (with_reducible repeat (first | apply Kd.R_alloc | apply Kd.R_drewN | apply Kd.R_drew)); exact Kd.R_far (p := ⟨gb382, 1, none⟩) (Kd.R_far (p := ⟨gb382, 0, none⟩) (Kd.R_types HO_8.out BK382.out (by decide)) (fun _ hk => hk.2) (.slice Ao46 x8_1.length co46)) (fun _ hk => hk.2) (.slice Ao45 x9_2.length co45))) (fun k_ hk => by exact .inr hk.1), Kd.V_mono (Kd.R_V (by (with_reducible repeat (first | apply Kd.R_alloc | apply Kd.R_drewN | apply Kd.R_drew)); exact Kd.R_far (p := ⟨gb382, 1, none⟩) (Kd.R_far (p := ⟨gb382, 0, none⟩) (Kd.R_types HO_9.out BK382.out (by decide)) (fun _ hk => hk.2) (.slice Ao46 x8_1.length co46)) (fun _ hk => hk.2) (.slice Ao45 x9_2.length co45))) (fun k_ hk => by exact .inr hk.1), beT_⟩

end Go.Proofs.Ytjhfglpgpicmiaa.F
end
