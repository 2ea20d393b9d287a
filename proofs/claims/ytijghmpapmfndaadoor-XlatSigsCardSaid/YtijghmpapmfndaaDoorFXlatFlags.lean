/- Functions of this seat's program, each as a plain Lean function, and what a call of each comes to. No condition. -/
import Derived.Test.YtijghmpapmfndaaDoorF0
namespace Go.Proofs.YtijghmpapmfndaaDoor.F
open Go.RowKit Go.Proofs.YtijghmpapmfndaaDoorW.PrintWords Go.Proofs.YtijghmpapmfndaaDoorW.PrintLast Go.Proofs.YtijghmpapmfndaaDoorW.PrintMore
attribute [local go_sem] max2_int min2_int max_two min_two max_three min_three max_four min_four   -- for this text's walks alone
set_option linter.unusedVariables false
set_option linter.unusedSimpArgs false

/-! ### xlat_Flags: function 7 -/
def xlat_Flags.l0 : Nat → Int → Int → Int → List (S36) → Int → Int → Option (Int × Bool)
  | 0, _, _, _, _, _, _ => none
  | k + 1, x0, x4, x5, x19, x20, x21 => if x21 < x20 then (if 0 ≤ x21 then (if x21 < (x19.length : Int) then (if (Go.bits .and .u32 x4 (((rd_T36 x19 x21).f0) % 4294967296)) = 0 then (xlat_Flags.l0 k x0 x4 x5 x19 x20 (wrap64 (x21 + 1))) else (xlat_Flags.l0 k x0 (Go.bits .andNot .u32 x4 (((rd_T36 x19 x21).f0) % 4294967296)) (Go.bits .or .i64 x5 ((rd_T36 x19 x21).f1)) x19 x20 (wrap64 (x21 + 1)))) else (none)) else (none)) else (if x4 = 0 then (if (Go.bits .and .u32 x0 3) = 3 then (some (0, false)) else (some (x5, true))) else (some (0, false)))
def xlat_Flags.f (k : Nat) (a0 : Int) : Option (Int × Bool) := (some (([(⟨8, 1024⟩ : S36), (⟨128, 2048⟩ : S36), (⟨256, 64⟩ : S36), (⟨512, 512⟩ : S36), (⟨1024, 128⟩ : S36), (⟨65536, 65536⟩ : S36)] : List (S36)) : List (S36))).bind fun y101 => (xlat_Flags.l0 k a0 (Go.bits .andNot .u32 a0 32771) (wrap64 (Go.bits .and .u32 a0 3)) y101 (y101.length : Int) 0)
theorem xlat_Flags.mono_l : ∀ k, (∀ y0 y1 y2 y3 y4 y5, LeO (xlat_Flags.l0 k y0 y1 y2 y3 y4 y5) (xlat_Flags.l0 (k + 1) y0 y1 y2 y3 y4 y5))
  | 0 => fun _ _ _ _ _ _ r h => by simp [xlat_Flags.l0] at h
  | k + 1 => by
    have ih0 := xlat_Flags.mono_l k
    · intro y0 y1 y2 y3 y4 y5
      unfold xlat_Flags.l0
      repeat' first
      | (with_reducible exact ih0 _ _ _ _ _ _)
      | (with_reducible exact LeO.refl _)
      | (with_reducible exact LeO.none _)
      | (with_reducible refine LeO.ite ?_ ?_)
      | (with_reducible refine LeO.bind ?_ (fun _ => ?_))
      | exact ih0 _ _ _ _ _ _
      | exact LeO.none _
      | refine LeO.ite ?_ ?_
      | refine LeO.bind ?_ (fun _ => ?_)
theorem xlat_Flags.mono : ∀ a0 k, LeO (xlat_Flags.f k a0) (xlat_Flags.f (k + 1) a0) := by
  intro a0 k
  have ih0 := xlat_Flags.mono_l k
  unfold xlat_Flags.f
  repeat' first
      | (with_reducible exact ih0 _ _ _ _ _ _)
      | (with_reducible exact LeO.refl _)
      | (with_reducible exact LeO.none _)
      | (with_reducible refine LeO.ite ?_ ?_)
      | (with_reducible refine LeO.bind ?_ (fun _ => ?_))
      | exact ih0 _ _ _ _ _ _
      | exact LeO.none _
      | refine LeO.ite ?_ ?_
      | refine LeO.bind ?_ (fun _ => ?_)
set_option maxHeartbeats 8000000 in
set_option maxRecDepth 100000 in
theorem xlat_Flags.calls (k : Nat) (a0 : Int) (r1 : Int) (r2 : Bool) (w : World) (h : xlat_Flags.f k a0 = some (r1, r2)) :
    Calls Tryd.prog 7 #[.int .u32 a0] w fun e w' => e = .returned (.tuple #[.int .i64 r1, .bool r2]) ∧ Below w.heap.size w w' := by
  have hu36 := Tryd.underlying36
  have HB := Aside0.mk (Below.refl w.heap.size w)
  have H : ((some (([(⟨8, 1024⟩ : S36), (⟨128, 2048⟩ : S36), (⟨256, 64⟩ : S36), (⟨512, 512⟩ : S36), (⟨1024, 128⟩ : S36), (⟨65536, 65536⟩ : S36)] : List (S36)) : List (S36))).bind fun y101 => (xlat_Flags.l0 k a0 (Go.bits .andNot .u32 a0 32771) (wrap64 (Go.bits .and .u32 a0 3)) y101 (y101.length : Int) 0)) = some (r1, r2) := h
  clear h
  obtain ⟨y101, hy101⟩ : ∃ y_ : List (S36), y_ = (([(⟨8, 1024⟩ : S36), (⟨128, 2048⟩ : S36), (⟨256, 64⟩ : S36), (⟨512, 512⟩ : S36), (⟨1024, 128⟩ : S36), (⟨65536, 65536⟩ : S36)] : List (S36))) := ⟨_, rfl⟩
  replace H : (xlat_Flags.l0 k a0 (Go.bits .andNot .u32 a0 32771) (wrap64 (Go.bits .and .u32 a0 3)) y101 (y101.length : Int) 0) = some (r1, r2) := by first | (rw [hy101]; with_reducible exact H) | (have H2_ := (Option.bind_some _ _).symm.trans H; rw [hy101]; with_reducible exact H2_) | (have H2_ := (Option.bind_some _ _).symm.trans H; with_reducible exact H2_) | with_reducible exact H | (rw [hy101]; exact H) | exact H
  have Ny101 := Aside0.mk hy101
  clear hy101
  have H' := Aside0.mk H
  clear H
  go_enter Tryd.func7, Tryd.ntmps7
  go_wp2_with (first | ((with_reducible refine gate_dst (N := 19) rfl ?_); refine Kd.R_lit k36 _ 36 ?hg (N := 19) ?hd (xs := ([(⟨8, 1024⟩ : S36), (⟨128, 2048⟩ : S36), (⟨256, 64⟩ : S36), (⟨512, 512⟩ : S36), (⟨1024, 128⟩ : S36), (⟨65536, 65536⟩ : S36)] : List (S36))) (inner := [.int .i64 8, .int .i64 1024, .int .i64 128, .int .i64 2048, .int .i64 256, .int .i64 64, .int .i64 512, .int .i64 512, .int .i64 1024, .int .i64 128, .int .i64 65536, .int .i64 65536]) (ok := fun _ => True) (okp := fun _ => True) ?hr ?hp (fun _ hk => hk) trivial (Below.refl _ _) (Nat.le_refl _) (by simp) ?_; (case hd => rfl); (case hg => rfl); (case hr => first | (go_simp; done) | (go_simp; rfl)); (case hp => exact (Reps.c2 (show Kd.M k36 _ _ _ (⟨8, 1024⟩ : S36) [.int .i64 8, .int .i64 1024] from (k36_mkM _ _ _ (⟨8, 1024⟩ : S36) )) (Reps.c2 (show Kd.M k36 _ _ _ (⟨128, 2048⟩ : S36) [.int .i64 128, .int .i64 2048] from (k36_mkM _ _ _ (⟨128, 2048⟩ : S36) )) (Reps.c2 (show Kd.M k36 _ _ _ (⟨256, 64⟩ : S36) [.int .i64 256, .int .i64 64] from (k36_mkM _ _ _ (⟨256, 64⟩ : S36) )) (Reps.c2 (show Kd.M k36 _ _ _ (⟨512, 512⟩ : S36) [.int .i64 512, .int .i64 512] from (k36_mkM _ _ _ (⟨512, 512⟩ : S36) )) (Reps.c2 (show Kd.M k36 _ _ _ (⟨1024, 128⟩ : S36) [.int .i64 1024, .int .i64 128] from (k36_mkM _ _ _ (⟨1024, 128⟩ : S36) )) (Reps.c2 (show Kd.M k36 _ _ _ (⟨65536, 65536⟩ : S36) [.int .i64 65536, .int .i64 65536] from (k36_mkM _ _ _ (⟨65536, 65536⟩ : S36) )) (Reps.none _ _)))))))); intro v102 w2 ho3 hb hg_ hnew_; clear hg_ hnew_; (first | rw [← Ny101.out] at ho3 | (simp only [Int.reduceToNat] at ho3; rw [← Ny101.out] at ho3)); have n0_ := Aside0.mk (Kd.R_lower ho3 (below_size (by repeat (first | (with_reducible first | exact HB.out | apply below_alloc | apply pw_below_drewN | apply below_drew1) | exact HB.out)))); have n1_ := Aside0.mk (below_step (by repeat (first | (with_reducible first | exact HB.out | apply below_alloc | apply pw_below_drewN | apply below_drew1) | exact HB.out)) hb); clear HB; have HO103 := n0_; have HB := n1_; clear n0_ n1_; clear hb ho3; obtain ⟨Ao4, co4, eo4⟩ := Kd.R_slice HO103.out; subst eo4))
  go_loopg [4, 5, 21] k (fun kq v4 v5 v21 w' => ∃ (x4_1 : Int) (x5_1 : Int) (x21_1 : Int), v4 = .int .u32 x4_1 ∧ v5 = .int .i64 x5_1 ∧ v21 = .int .i64 x21_1 ∧ Aside0 (xlat_Flags.l0 kq a0 x4_1 x5_1 y101 (y101.length : Int) x21_1 = some (r1, r2)) ∧ Aside0 (kq ≤ k) ∧ Aside0 (Kd.R k36 36 w' w.heap.size (fun _ => True) (.slice Ao4 y101.length co4) y101) ∧ Aside0 (Below w.heap.size w w'))
  case atStart => exact ⟨(Go.bits .andNot .u32 a0 32771), (wrap64 (Go.bits .and .u32 a0 3)), (0), (by first | rfl | (simp; done) | (simp [*]; done)), (by first | rfl | (simp; done) | (simp [*]; done)), (by first | rfl | (simp; done) | (simp [*]; done)), H', ⟨Nat.le_refl _⟩, ⟨by (with_reducible repeat (first | apply Kd.R_alloc | apply Kd.R_drewN | apply Kd.R_drew)); exact HO103.out⟩, ⟨by repeat (first | (with_reducible first | exact HB.out | apply below_alloc | apply pw_below_drewN | apply below_drew1) | exact HB.out)⟩⟩
  case round =>
    clear H'
    try clear c2
    try clear p2
    obtain ⟨x4_1, x5_1, x21_1, rfl, rfl, rfl, HA, HK1, HO_19, HB⟩ := hrel
    cases gk with
    | zero => exact absurd HA.out (by simp [xlat_Flags.l0])
    | succ k1 =>
      have H := HA.out
      clear HA
      simp only [xlat_Flags.l0] at H
      by_cases c5 : x21_1 < (y101.length : Int)
      · rw [if_pos c5] at H
        have c5b0 : decide (x21_1 < (y101.length : Int)) = true := decide_eq_true c5
        clear c5
        by_cases c6 : 0 ≤ x21_1
        · rw [if_pos c6] at H
          have c6b0 : decide (0 ≤ x21_1) = true := decide_eq_true c6
          clear c6
          by_cases c7 : x21_1 < (y101.length : Int)
          · rw [if_pos c7] at H
            have c7b0 : decide (x21_1 < (y101.length : Int)) = true := decide_eq_true c7
            clear c7
            by_cases c8 : (Go.bits .and .u32 x4_1 (((rd_T36 y101 x21_1).f0) % 4294967296)) = 0
            · rw [if_pos c8] at H
              have c8b0 : ((Go.bits .and .u32 x4_1 (((rd_T36 y101 x21_1).f0) % 4294967296)) == 0) = true := beq_iff_eq.mpr c8
              (try (have c8bs0 := c8b0; simp only [Int.add_emod_emod, Int.emod_add_emod, Int.sub_emod_emod, Int.emod_sub_emod] at c8bs0))
              have c8b1 : ((Go.bits .and .u32 x4_1 (((rd_T36 y101 x21_1).f0) % 4294967296)) != 0) = false := bne_eq_false_iff_eq.mpr c8
              (try (have c8bs1 := c8b1; simp only [Int.add_emod_emod, Int.emod_add_emod, Int.sub_emod_emod, Int.emod_sub_emod] at c8bs1))
              clear c8
              have H' := Aside0.mk H
              clear H
              have p104 : 0 ≤ (x21_1 : Int) := of_decide_eq_true (by first | (with_reducible assumption) | assumption)
              have q104 : x21_1 < (y101.length : Int) := of_decide_eq_true (by first | (with_reducible assumption) | assumption)
              obtain ⟨ad104, e104, hx104_0, hx104_1⟩ := at_T36 (Kd.R_reads' HO_19.out).2.2 x21_1 p104 q104
              cases e104
              replace p104 := eq_true p104
              replace q104 := eq_true q104
              go_wp2_with (first | ((with_reducible refine gate_dst (N := 7) rfl ?_); refine box_event ?hg (N := 7) ?hd (cs := #[.int .i64 0, .int .i64 0]) (t := 36) ?hr ?_; (case hd => rfl); (case hg => rfl); (case hr => first | (go_simp; done) | (go_simp; rfl)); intro gb105 hg w9 hbox hb; have n0_ := Aside0.mk (Kd.R_below (Kd.R_elderB (by (with_reducible repeat (first | apply Kd.R_alloc | apply Kd.R_drewN | apply Kd.R_drew)); exact HO_19.out) gb105 (Nat.le_of_eq hg.symm)) hb); have n1_ := Aside0.mk (below_step (by repeat (first | (with_reducible first | exact HB.out | apply below_alloc | apply pw_below_drewN | apply below_drew1) | exact HB.out)) hb); have n2_ := Aside0.mk (hbox); have n3_ := Aside0.mk ((by rw [hg]; exact (below_size (by repeat (first | (with_reducible first | exact HB.out | apply below_alloc | apply pw_below_drewN | apply below_drew1) | exact HB.out))) : w.heap.size ≤ gb105)); have n4_ := Aside0.mk ((by rw [hg]; exact (below_size (by repeat (first | (with_reducible first | exact HB.out | apply below_alloc | apply pw_below_drewN | apply below_drew1) | exact HB.out))) : w.heap.size ≤ gb105)); clear HO_19; clear HB; have HO_19 := n0_; have HB := n1_; have BK105 := n2_; have GW105 := n3_; have GE105 := n4_; clear n0_ n1_ n2_ n3_ n4_; clear hb hbox hg; have hcz10_0 : w9.cell? ⟨gb105, 0, none⟩ = some (.int .i64 0) := (blk_cell BK105.out 0).trans rfl; have hcz10_1 : w9.cell? ⟨gb105, 1, none⟩ = some (.int .i64 0) := (blk_cell BK105.out 1).trans rfl; have hfz10_0 := blk_frozen BK105.out 0; have hfz10_1 := blk_frozen BK105.out 1))
              go_roundg k1
              case measure => have := HK1.out; omega
              case rel => exact ⟨(x4_1), (x5_1), (wrap64 (x21_1 + 1)), (by first | rfl | (simp; done) | (simp [*]; done)), (by first | rfl | (simp; done) | (simp [*]; done)), (by first | rfl | (simp; done) | (simp [*]; done)), H', ⟨by have := HK1.out; omega⟩, ⟨by (with_reducible repeat (first | apply Kd.R_alloc | apply Kd.R_drewN | apply Kd.R_drew)); exact Kd.R_mono (Kd.R_far (p := ⟨gb105, 1, none⟩) (Kd.R_far (p := ⟨gb105, 0, none⟩) (Kd.R_mono HO_19.out (fun k_ hk => (⟨hk, hk.2⟩ : _ ∧ k_ ≠ gb105))) (fun _ hk => hk.2) (.int .i64 ((rd_T36 y101 x21_1).f0))) (fun _ hk => hk.2) (.int .i64 ((rd_T36 y101 x21_1).f1))) (fun _ hk => trivial)⟩, ⟨by repeat (first | (with_reducible first | exact HB.out | apply below_alloc | apply pw_below_drewN | apply below_drew1 | refine below_set ?_ GE105.out) | exact HB.out)⟩⟩
            · rw [if_neg c8] at H
              have c8b0 : ((Go.bits .and .u32 x4_1 (((rd_T36 y101 x21_1).f0) % 4294967296)) == 0) = false := beq_eq_false_iff_ne.mpr c8
              (try (have c8bs0 := c8b0; simp only [Int.add_emod_emod, Int.emod_add_emod, Int.sub_emod_emod, Int.emod_sub_emod] at c8bs0))
              have c8b1 : ((Go.bits .and .u32 x4_1 (((rd_T36 y101 x21_1).f0) % 4294967296)) != 0) = true := bne_iff_ne.mpr c8
              (try (have c8bs1 := c8b1; simp only [Int.add_emod_emod, Int.emod_add_emod, Int.sub_emod_emod, Int.emod_sub_emod] at c8bs1))
              have H' := Aside0.mk H
              clear H
              have p104 : 0 ≤ (x21_1 : Int) := of_decide_eq_true (by first | (with_reducible assumption) | assumption)
              have q104 : x21_1 < (y101.length : Int) := of_decide_eq_true (by first | (with_reducible assumption) | assumption)
              obtain ⟨ad104, e104, hx104_0, hx104_1⟩ := at_T36 (Kd.R_reads' HO_19.out).2.2 x21_1 p104 q104
              cases e104
              replace p104 := eq_true p104
              replace q104 := eq_true q104
              go_wp2_with (first | ((with_reducible refine gate_dst (N := 7) rfl ?_); refine box_event ?hg (N := 7) ?hd (cs := #[.int .i64 0, .int .i64 0]) (t := 36) ?hr ?_; (case hd => rfl); (case hg => rfl); (case hr => first | (go_simp; done) | (go_simp; rfl)); intro gb105 hg w11 hbox hb; have n0_ := Aside0.mk (Kd.R_below (Kd.R_elderB (by (with_reducible repeat (first | apply Kd.R_alloc | apply Kd.R_drewN | apply Kd.R_drew)); exact HO_19.out) gb105 (Nat.le_of_eq hg.symm)) hb); have n1_ := Aside0.mk (below_step (by repeat (first | (with_reducible first | exact HB.out | apply below_alloc | apply pw_below_drewN | apply below_drew1) | exact HB.out)) hb); have n2_ := Aside0.mk (hbox); have n3_ := Aside0.mk ((by rw [hg]; exact (below_size (by repeat (first | (with_reducible first | exact HB.out | apply below_alloc | apply pw_below_drewN | apply below_drew1) | exact HB.out))) : w.heap.size ≤ gb105)); have n4_ := Aside0.mk ((by rw [hg]; exact (below_size (by repeat (first | (with_reducible first | exact HB.out | apply below_alloc | apply pw_below_drewN | apply below_drew1) | exact HB.out))) : w.heap.size ≤ gb105)); clear HO_19; clear HB; have HO_19 := n0_; have HB := n1_; have BK105 := n2_; have GW105 := n3_; have GE105 := n4_; clear n0_ n1_ n2_ n3_ n4_; clear hb hbox hg; have hcz12_0 : w11.cell? ⟨gb105, 0, none⟩ = some (.int .i64 0) := (blk_cell BK105.out 0).trans rfl; have hcz12_1 : w11.cell? ⟨gb105, 1, none⟩ = some (.int .i64 0) := (blk_cell BK105.out 1).trans rfl; have hfz12_0 := blk_frozen BK105.out 0; have hfz12_1 := blk_frozen BK105.out 1))
              go_roundg k1
              case measure => have := HK1.out; omega
              case rel => exact ⟨(Go.bits .andNot .u32 x4_1 (((rd_T36 y101 x21_1).f0) % 4294967296)), (Go.bits .or .i64 x5_1 ((rd_T36 y101 x21_1).f1)), (wrap64 (x21_1 + 1)), (by first | rfl | (simp; done) | (simp [*]; done)), (by first | rfl | (simp; done) | (simp [*]; done)), (by first | rfl | (simp; done) | (simp [*]; done)), H', ⟨by have := HK1.out; omega⟩, ⟨by (with_reducible repeat (first | apply Kd.R_alloc | apply Kd.R_drewN | apply Kd.R_drew)); exact Kd.R_mono (Kd.R_far (p := ⟨gb105, 1, none⟩) (Kd.R_far (p := ⟨gb105, 0, none⟩) (Kd.R_mono HO_19.out (fun k_ hk => (⟨hk, hk.2⟩ : _ ∧ k_ ≠ gb105))) (fun _ hk => hk.2) (.int .i64 ((rd_T36 y101 x21_1).f0))) (fun _ hk => hk.2) (.int .i64 ((rd_T36 y101 x21_1).f1))) (fun _ hk => trivial)⟩, ⟨by repeat (first | (with_reducible first | exact HB.out | apply below_alloc | apply pw_below_drewN | apply below_drew1 | refine below_set ?_ GE105.out) | exact HB.out)⟩⟩
          · rw [if_neg c7] at H
            exact absurd H (by simp)
        · rw [if_neg c6] at H
          exact absurd H (by simp)
      · rw [if_neg c5] at H
        have c5b0 : decide (x21_1 < (y101.length : Int)) = false := decide_eq_false c5
        clear c5
        by_cases c13 : x4_1 = 0
        · rw [if_pos c13] at H
          have c13b0 : (x4_1 == 0) = true := beq_iff_eq.mpr c13
          have c13b1 : (x4_1 != 0) = false := bne_eq_false_iff_eq.mpr c13
          clear c13
          by_cases c14 : (Go.bits .and .u32 a0 3) = 3
          · rw [if_pos c14] at H
            have c14b0 : ((Go.bits .and .u32 a0 3) == 3) = true := beq_iff_eq.mpr c14
            have c14b1 : ((Go.bits .and .u32 a0 3) != 3) = false := bne_eq_false_iff_eq.mpr c14
            clear c14
            simp only [Option.some.injEq, Prod.mk.injEq] at H
            obtain ⟨rfl, rfl⟩ := H
            go_wp2
            go_ret2
            exact ⟨by first | rfl | (simp [errW_none, errW_some] <;> rfl) | (simp [*, errW_none, errW_some] <;> rfl), by repeat (first | (with_reducible first | exact HB.out | apply below_alloc | apply pw_below_drewN | apply below_drew1) | exact HB.out)⟩
          · rw [if_neg c14] at H
            have c14b0 : ((Go.bits .and .u32 a0 3) == 3) = false := beq_eq_false_iff_ne.mpr c14
            have c14b1 : ((Go.bits .and .u32 a0 3) != 3) = true := bne_iff_ne.mpr c14
            simp only [Option.some.injEq, Prod.mk.injEq] at H
            obtain ⟨rfl, rfl⟩ := H
            go_wp2
            go_ret2
            exact ⟨by first | rfl | (simp [errW_none, errW_some] <;> rfl) | (simp [*, errW_none, errW_some] <;> rfl), by repeat (first | (with_reducible first | exact HB.out | apply below_alloc | apply pw_below_drewN | apply below_drew1) | exact HB.out)⟩
        · rw [if_neg c13] at H
          have c13b0 : (x4_1 == 0) = false := beq_eq_false_iff_ne.mpr c13
          have c13b1 : (x4_1 != 0) = true := bne_iff_ne.mpr c13
          simp only [Option.some.injEq, Prod.mk.injEq] at H
          obtain ⟨rfl, rfl⟩ := H
          go_wp2
          go_ret2
          exact ⟨by first | rfl | (simp [errW_none, errW_some] <;> rfl) | (simp [*, errW_none, errW_some] <;> rfl), by repeat (first | (with_reducible first | exact HB.out | apply below_alloc | apply pw_below_drewN | apply below_drew1) | exact HB.out)⟩

end Go.Proofs.YtijghmpapmfndaaDoor.F
