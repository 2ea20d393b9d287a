import Derived.Test.YtgkjdpdmmlalcaaKZF0
import Derived.Test.YtgkjdpdmmlalcaaKA0
import Derived.Test.YtgkjdpdmmlalcaaKA5
section
namespace Go.Proofs.Ytgkjdpdmmlalcaa.F
open Go.RowKit Go.Proofs.YtgkjdpdmmlalcaaW.PrintWords Go.Proofs.YtgkjdpdmmlalcaaW.PrintLast Go.Proofs.YtgkjdpdmmlalcaaW.PrintMore
attribute [local go_sem] max2_int min2_int max_two min_two max_three min_three max_four min_four
attribute [local go_sem] cell_twice
set_option linter.unusedVariables false
set_option linter.unusedSimpArgs false

def host_Load.j0 : Nat → Int → Int → Bool → List (S83) → List (S88) → Option (Int × Int × Int)
  | 0, _, _, _, _, _ => none
  | k + 1, x1, x2, x17, x139000, x139001 => if x17 = true then (some (0, 0, 0)) else ((host_ask.f k x139000 x139001 x1 x2 1).bind fun bt140 => (if bt140.1 = 0 then ((host_word.f x139000 x139001 (Go.bits .andNot .u64 x1 7)).bind fun t143 => (if 0 ≤ (IntKind.u64.wrap (8 * (Go.bits .and .u64 x1 7))) then (if (IntKind.u64.wrap (8 * (Go.bits .and .u64 x1 7))) > 0 then ((host_word.f x139000 x139001 (IntKind.u64.wrap ((Go.bits .andNot .u64 x1 7) + 8))).bind fun t144 => (if 0 ≤ (IntKind.u64.wrap (64 - (IntKind.u64.wrap (8 * (Go.bits .and .u64 x1 7))))) then (if 0 ≤ (wrap64 ((wrap64 (8 * x2)) - 1)) then (some (Go.bits .and .u64 (Go.bits .or .u64 (shr .u64 t143 (IntKind.u64.wrap (8 * (Go.bits .and .u64 x1 7)))) (shl .u64 t144 (IntKind.u64.wrap (64 - (IntKind.u64.wrap (8 * (Go.bits .and .u64 x1 7))))))) (IntKind.u64.wrap ((IntKind.u64.wrap ((shl .u64 1 (wrap64 ((wrap64 (8 * x2)) - 1))) * 2)) - 1)), 0, 0)) else (none)) else (none))) else (if 0 ≤ (wrap64 ((wrap64 (8 * x2)) - 1)) then (some (Go.bits .and .u64 (shr .u64 t143 (IntKind.u64.wrap (8 * (Go.bits .and .u64 x1 7)))) (IntKind.u64.wrap ((IntKind.u64.wrap ((shl .u64 1 (wrap64 ((wrap64 (8 * x2)) - 1))) * 2)) - 1)), 0, 0)) else (none))) else (none))) else (some (0, bt140.1, bt140.2))))
def host_Load.f (k : Nat) (l0_0 : List (S83)) (l0_1 : List (S88)) (a1 : Int) (a2 : Int) : Option (Int × Int × Int) := if a2 < 1 then (host_Load.j0 k a1 a2 true l0_0 l0_1) else (host_Load.j0 k a1 a2 (decide (a2 > 8)) l0_0 l0_1)
set_option maxHeartbeats 8000000 in
set_option maxRecDepth 100000 in
theorem host_Load.calls (k : Nat) (A0_0 : Option Addr) (c0_0 : Nat) (l0_0 : List (S83)) (A0_1 : Option Addr) (c0_1 : Nat) (l0_1 : List (S88)) (a1 : Int) (a2 : Int) (r1 : Int) (r2 : Int) (r3 : Int) (w : World) (hr0_0 : Kd.C k83 w A0_0 l0_0.length l0_0) (hc0_0 : l0_0.length ≤ c0_0) (hr0_1 : Kd.C k88 w A0_1 l0_1.length l0_1) (hc0_1 : l0_1.length ≤ c0_1) (h : host_Load.f k l0_0 l0_1 a1 a2 = some (r1, r2, r3)) :
    Calls Try.prog 78 #[.agg #[.slice A0_0 l0_0.length c0_0, .slice A0_1 l0_1.length c0_1], .int .u64 a1, .int .i64 a2] w fun e w' => e = .returned (.tuple #[.int .u64 r1, .agg #[.int .i64 r2, .int .u64 r3]]) ∧ Below w.heap.size w w' := by
  have hu25 := Try.underlying25
  have hu34 := Try.underlying34
  have HR0_0 := Aside0.mk hr0_0
  have HC0_0 := Aside0.mk hc0_0
  clear hr0_0 hc0_0
  have HR0_1 := Aside0.mk hr0_1
  have HC0_1 := Aside0.mk hc0_1
  clear hr0_1 hc0_1
  have HB := Aside0.mk (Below.refl w.heap.size w)
  have H : (if a2 < 1 then (host_Load.j0 k a1 a2 true l0_0 l0_1) else (host_Load.j0 k a1 a2 (decide (a2 > 8)) l0_0 l0_1)) = some (r1, r2, r3) := h
  clear h
  have HC4 := Aside0.mk H
  clear H
  go_enter Try.func78, Try.ntmps78
  go_upto_region 1 with (first | ((with_reducible refine gate_dst (N := 3) rfl ?_); refine bE_ 3 #[.slice A0_0 l0_0.length c0_0, .slice A0_1 l0_1.length c0_1] 25 ?_; intro gb138 hg w5 hbox hb; have BK138 := Aside0.mk hbox; have GW138 := geT_ w.heap.size hg; have GE138 := geT_ w.heap.size hg; replace HB := hB_ hb; clear hb hbox hg) | ((with_reducible refine gate_dst (N := 7) rfl ?_); refine bE_ 7 #[.int .i64 0, .int .u64 0] 34 ?_; intro gb139 hg w6 hbox hb; have BK139 := Aside0.mk hbox; have GW139 := geT_ w.heap.size hg; have GE139 := geT_ w.heap.size hg; have NB138_139 := nlT_ BK138.out hg; have NB139_138 := ngT_ BK138.out hg; replace BK138 := kB_ BK138 hb; replace HB := hB_ hb; clear hb hbox hg))
  (try simp only [Act.put, List.setIfInBounds_toArray, List.set_cons_zero, List.set_cons_succ])
  go_cut [17] (fun v17 wc => ∃ (kq : Nat) (x17_3 : Bool), v17 = .bool x17_3 ∧ Aside0 (host_Load.j0 kq a1 a2 x17_3 l0_0 l0_1 = some (r1, r2, r3)) ∧ Aside0 (kq ≤ k) ∧ Aside0 (wc.heap[gb138]? = some (.cells #[(.slice A0_0 l0_0.length c0_0), (.slice A0_1 l0_1.length c0_1)] 25 (0, 0))) ∧ Aside0 (wc.heap[gb139]? = some (.cells #[.int .i64 0, .int .u64 0] 34 (0, 0))) ∧ Aside0 (Below w.heap.size w wc))
  case first =>
    have H := HC4.out
    clear HC4
    by_cases c7 : a2 < 1
    · rw [if_pos c7] at H
      have c7b0 : decide (a2 < 1) = true := decide_eq_true c7
      clear c7
      (skip)
      have H' := Aside0.mk H
      clear H
      go_wp2
      go_meet
      case rel => exact ⟨_, (true), r1_, H', ⟨r2_⟩, ⟨bT_ BK138.out⟩, ⟨bT_ BK139.out⟩, ⟨beT_⟩⟩
    rw [if_neg c7] at H
    have c7b0 : decide (a2 < 1) = false := decide_eq_false c7
    clear c7
    (skip)
    have H' := Aside0.mk H
    clear H
    go_wp2
    go_meet
    case rel => exact ⟨_, (decide (a2 > 8)), r1_, H', ⟨r2_⟩, ⟨bT_ BK138.out⟩, ⟨bT_ BK139.out⟩, ⟨beT_⟩⟩
  case rest =>
    clear HC4
    obtain ⟨kq, x17_3, rfl, HA, HJ3, BK138, BK139, HB⟩ := hcut
    cases kq with
    | zero => exact absurd HA.out (by simp [host_Load.j0])
    | succ kj3 =>
      have H := HA.out
      clear HA
      simp only [host_Load.j0] at H
      by_cases c8 : x17_3 = true
      · subst c8
        replace H := hP_ H
        simp only [Option.some.injEq, Prod.mk.injEq] at H
        obtain ⟨rfl, rfl, rfl⟩ := H
        have hnb9 := NB139_138.out
        have hnc9 := NB138_139.out
        obtain ⟨hcz10_0, hcz10_1, hfz10_0, hfz10_1⟩ := b2_ BK139.out
        go_wp2
        refine bodyPost_ret (results_tc rfl _ _ gb139 34 #[.int .i64 0, .int .u64 0] (0, 0) _ rfl (kP_ BK139.out) Try.underlying34 rfl (by kernel_rfl)) rfl ?_
        exact ⟨r3_, beT_⟩
      replace c8 := Bool.eq_false_iff.mpr c8
      subst c8
      replace H := hN_ H
      replace H := Option.bind_eq_some_iff.mp H
      obtain ⟨⟨t140, t141⟩, A110, H⟩ := H
      have A11 := Aside0.mk A110
      clear A110
      by_cases c12 : t140 = 0
      · rw [if_pos c12] at H
        have c12b0 : (t140 == 0) = true := beq_iff_eq.mpr c12
        have c12b1 : (t140 != 0) = false := bne_eq_false_iff_eq.mpr c12
        clear c12
        replace H := Option.bind_eq_some_iff.mp H
        obtain ⟨t143, A130, H⟩ := H
        have A13 := Aside0.mk A130
        clear A130
        obtain ⟨ji14, hji14⟩ : ∃ j_ : Int, (IntKind.u64.wrap (8 * (Go.bits .and .u64 a1 7))) = j_ := ⟨_, rfl⟩
        replace H : (if 0 ≤ (ji14) then (if (ji14) > 0 then ((host_word.f l0_0 l0_1 (IntKind.u64.wrap ((Go.bits .andNot .u64 a1 7) + 8))).bind fun t144 => (if 0 ≤ (IntKind.u64.wrap (64 - (ji14))) then (if 0 ≤ (wrap64 ((wrap64 (8 * a2)) - 1)) then (some (Go.bits .and .u64 (Go.bits .or .u64 (shr .u64 t143 (ji14)) (shl .u64 t144 (IntKind.u64.wrap (64 - (ji14))))) (IntKind.u64.wrap ((IntKind.u64.wrap ((shl .u64 1 (wrap64 ((wrap64 (8 * a2)) - 1))) * 2)) - 1)), 0, 0)) else (none)) else (none))) else (if 0 ≤ (wrap64 ((wrap64 (8 * a2)) - 1)) then (some (Go.bits .and .u64 (shr .u64 t143 (ji14)) (IntKind.u64.wrap ((IntKind.u64.wrap ((shl .u64 1 (wrap64 ((wrap64 (8 * a2)) - 1))) * 2)) - 1)), 0, 0)) else (none))) else (none)) = some (r1, r2, r3) := by (rw [hji14] at H; exact H)
        by_cases c15 : 0 ≤ (ji14)
        · rw [if_pos c15] at H
          have c15b0 := eq_true c15
          have c15b1 : decide (0 ≤ (ji14)) = true := decide_eq_true c15
          clear c15
          obtain ⟨ji16, hji16⟩ : ∃ j_ : Int, (shr .u64 t143 (ji14)) = j_ := ⟨_, rfl⟩
          replace H : (if (ji14) > 0 then ((host_word.f l0_0 l0_1 (IntKind.u64.wrap ((Go.bits .andNot .u64 a1 7) + 8))).bind fun t144 => (if 0 ≤ (IntKind.u64.wrap (64 - (ji14))) then (if 0 ≤ (wrap64 ((wrap64 (8 * a2)) - 1)) then (some (Go.bits .and .u64 (Go.bits .or .u64 (ji16) (shl .u64 t144 (IntKind.u64.wrap (64 - (ji14))))) (IntKind.u64.wrap ((IntKind.u64.wrap ((shl .u64 1 (wrap64 ((wrap64 (8 * a2)) - 1))) * 2)) - 1)), 0, 0)) else (none)) else (none))) else (if 0 ≤ (wrap64 ((wrap64 (8 * a2)) - 1)) then (some (Go.bits .and .u64 (ji16) (IntKind.u64.wrap ((IntKind.u64.wrap ((shl .u64 1 (wrap64 ((wrap64 (8 * a2)) - 1))) * 2)) - 1)), 0, 0)) else (none))) = some (r1, r2, r3) := by (rw [hji16] at H; exact H)
          have hji16_ : (t143 / 2 ^ min (ji14).toNat 64) = ji16 := hji16
          have hji16z : (ji14) ≤ 64 → (t143 / 2 ^ (ji14).toNat) = ji16 := shr_small hji16
          by_cases c17 : (ji14) > 0
          · rw [if_pos c17] at H
            have c17b0 : decide (0 < (ji14)) = true := decide_eq_true c17
            clear c17
            replace H := Option.bind_eq_some_iff.mp H
            obtain ⟨t144, A180, H⟩ := H
            have A18 := Aside0.mk A180
            clear A180
            obtain ⟨ji19, hji19⟩ : ∃ j_ : Int, (IntKind.u64.wrap (64 - (ji14))) = j_ := ⟨_, rfl⟩
            replace H : (if 0 ≤ (ji19) then (if 0 ≤ (wrap64 ((wrap64 (8 * a2)) - 1)) then (some (Go.bits .and .u64 (Go.bits .or .u64 (ji16) (shl .u64 t144 (ji19))) (IntKind.u64.wrap ((IntKind.u64.wrap ((shl .u64 1 (wrap64 ((wrap64 (8 * a2)) - 1))) * 2)) - 1)), 0, 0)) else (none)) else (none)) = some (r1, r2, r3) := by (rw [hji19] at H; exact H)
            by_cases c20 : 0 ≤ (ji19)
            · rw [if_pos c20] at H
              have c20b0 := eq_true c20
              have c20b1 : decide (0 ≤ (ji19)) = true := decide_eq_true c20
              clear c20
              obtain ⟨ji21, hji21⟩ : ∃ j_ : Int, (shl .u64 t144 (ji19)) = j_ := ⟨_, rfl⟩
              replace H : (if 0 ≤ (wrap64 ((wrap64 (8 * a2)) - 1)) then (some (Go.bits .and .u64 (Go.bits .or .u64 (ji16) (ji21)) (IntKind.u64.wrap ((IntKind.u64.wrap ((shl .u64 1 (wrap64 ((wrap64 (8 * a2)) - 1))) * 2)) - 1)), 0, 0)) else (none)) = some (r1, r2, r3) := by (rw [hji21] at H; exact H)
              have hji21_ : (IntKind.u64.wrap (t144 * 2 ^ min (ji19).toNat 64)) = ji21 := hji21
              have hji21z : (ji19) ≤ 64 → (IntKind.u64.wrap (t144 * 2 ^ (ji19).toNat)) = ji21 := shl_small hji21
              obtain ⟨ji22, hji22⟩ : ∃ j_ : Int, (wrap64 ((wrap64 (8 * a2)) - 1)) = j_ := ⟨_, rfl⟩
              replace H : (if 0 ≤ (ji22) then (some (Go.bits .and .u64 (Go.bits .or .u64 (ji16) (ji21)) (IntKind.u64.wrap ((IntKind.u64.wrap ((shl .u64 1 (ji22)) * 2)) - 1)), 0, 0)) else (none)) = some (r1, r2, r3) := by (rw [hji22] at H; exact H)
              have hji22w : (IntKind.i64.wrap ((wrap64 (8 * a2)) - 1)) = ji22 := (i64_w _).trans hji22
              by_cases c23 : 0 ≤ (ji22)
              · rw [if_pos c23] at H
                have c23b0 := eq_true c23
                have c23b1 : decide (0 ≤ (ji22)) = true := decide_eq_true c23
                clear c23
                obtain ⟨ji24, hji24⟩ : ∃ j_ : Int, (shl .u64 1 (ji22)) = j_ := ⟨_, rfl⟩
                replace H : (some (Go.bits .and .u64 (Go.bits .or .u64 (ji16) (ji21)) (IntKind.u64.wrap ((IntKind.u64.wrap ((ji24) * 2)) - 1)), 0, 0)) = some (r1, r2, r3) := by (rw [hji24] at H; exact H)
                have hji24_ : (IntKind.u64.wrap (1 * 2 ^ min (ji22).toNat 64)) = ji24 := hji24
                have hji24z : (ji22) ≤ 64 → (IntKind.u64.wrap (1 * 2 ^ (ji22).toNat)) = ji24 := shl_small hji24
                have hji24u : (IntKind.u64.wrap (2 ^ min (ji22).toNat 64)) = ji24 := by have h_ := hji24_; rw [Int.one_mul] at h_; exact h_
                have hji24v : (ji22) ≤ 64 → (IntKind.u64.wrap (2 ^ (ji22).toNat)) = ji24 := fun hle_ => by have h_ := hji24z hle_; rw [Int.one_mul] at h_; exact h_
                simp only [Option.some.injEq, Prod.mk.injEq] at H
                obtain ⟨rfl, rfl, rfl⟩ := H
                have hnb25 := NB138_139.out
                have hnc25 := NB139_138.out
                obtain ⟨hcz26_0, hcz26_1, hfz26_0, hfz26_1⟩ := b2_ BK138.out
                go_wp2_with (first | ((with_reducible refine gate_callee (f := 104) rfl ?_); refine gL_ (some 22) Try.func104 #[.agg #[.slice A0_0 l0_0.length c0_0, .slice A0_1 l0_1.length c0_1], .int .u64 a1, .int .i64 a2, .int .i64 1] ?_; (with_reducible refine (host_ask.calls kj3 _ _ l0_0 _ _ l0_1 a1 a2 1 t140 t141 _ ?side1 ?side2 ?side3 ?side4 A11.out).mono ?_); (case side1 => exact cT_ (Kd.C_below HR0_0.out HB.out)); (case side2 => exact HC0_0.out); (case side3 => exact cT_ (Kd.C_below HR0_1.out HB.out)); (case side4 => exact HC0_1.out); rintro e w27 ⟨rfl, hb⟩; refine ⟨_, rfl, ?_⟩; replace BK138 := kB_ BK138 hb; replace BK139 := kB_ BK139 hb; replace HB := hB_ hb; (try clear hb)) | ((with_reducible refine gate_dst (N := 8) rfl ?_); refine bE_ 8 #[.int .i64 0, .int .u64 0] 34 ?_; intro gb142 hg w28 hbox hb; have BK142 := Aside0.mk hbox; have GW142 := geT_ w.heap.size hg; have GE142 := geT_ w.heap.size hg; have NB138_142 := nlT_ BK138.out hg; have NB142_138 := ngT_ BK138.out hg; have NB139_142 := nlT_ BK139.out hg; have NB142_139 := ngT_ BK139.out hg; replace BK138 := kB_ BK138 hb; replace BK139 := kB_ BK139 hb; replace HB := hB_ hb; clear hb hbox hg; have hnb29 := NB142_138.out; have hnc29 := NB138_142.out; have hnb30 := NB142_139.out; have hnc30 := NB139_142.out; obtain ⟨hcz31_0, hcz31_1, hfz31_0, hfz31_1⟩ := b2_ BK142.out; obtain ⟨hcz32_0, hcz32_1, hfz32_0, hfz32_1⟩ := b2_ BK138.out) | ((with_reducible refine gate_callee (f := 107) rfl ?_); refine gL_ (some 34) Try.func107 #[.agg #[.slice A0_0 l0_0.length c0_0, .slice A0_1 l0_1.length c0_1], .int .u64 (Go.bits .andNot .u64 a1 7)] ?_; (with_reducible refine (host_word.calls _ _ l0_0 _ _ l0_1 (Go.bits .andNot .u64 a1 7) t143 _ ?side1 ?side2 ?side3 ?side4 A13.out).mono ?_); (case side1 => exact Kd.C_below HR0_0.out beT_); (case side2 => exact HC0_0.out); (case side3 => exact Kd.C_below HR0_1.out beT_); (case side4 => exact HC0_1.out); rintro e w33 ⟨rfl, hb⟩; refine ⟨_, rfl, ?_⟩; replace BK138 := kB_ BK138 hb; replace BK139 := kB_ BK139 hb; replace BK142 := Aside0.mk (blk_below (g := gb142) (o := .cells #[.int .i64 t140, .int .u64 t141] 34 (0, 0)) (kP_ BK142.out) hb); replace HB := hB_ hb; (try clear hb); obtain ⟨hcz34_0, hcz34_1, hfz34_0, hfz34_1⟩ := b2_ BK138.out) | ((with_reducible refine gate_callee (f := 107) rfl ?_); refine gL_ (some 43) Try.func107 #[.agg #[.slice A0_0 l0_0.length c0_0, .slice A0_1 l0_1.length c0_1], .int .u64 (IntKind.u64.wrap ((Go.bits .andNot .u64 a1 7) + 8))] ?_; (with_reducible refine (host_word.calls _ _ l0_0 _ _ l0_1 (IntKind.u64.wrap ((Go.bits .andNot .u64 a1 7) + 8)) t144 _ ?side1 ?side2 ?side3 ?side4 A18.out).mono ?_); (case side1 => exact cT_ (Kd.C_below HR0_0.out HB.out)); (case side2 => exact HC0_0.out); (case side3 => exact cT_ (Kd.C_below HR0_1.out HB.out)); (case side4 => exact HC0_1.out); rintro e w35 ⟨rfl, hb⟩; refine ⟨_, rfl, ?_⟩; replace BK138 := kB_ BK138 hb; replace BK139 := kB_ BK139 hb; replace BK142 := kB_ BK142 hb; replace HB := hB_ hb; (try clear hb); obtain ⟨hcz36_0, hcz36_1, hfz36_0, hfz36_1⟩ := b2_ BK139.out))
                refine bodyPost_ret (results_tc rfl _ _ gb139 34 #[.int .i64 0, .int .u64 0] (0, 0) _ rfl (kP_ BK139.out) Try.underlying34 rfl (by kernel_rfl)) rfl ?_
                exact ⟨by rfl, beT_⟩
              rw [if_neg c23] at H
              exact absurd H (by simp)
            rw [if_neg c20] at H
            exact absurd H (by simp)
          rw [if_neg c17] at H
          have c17b0 : decide (0 < (ji14)) = false := decide_eq_false c17
          clear c17
          obtain ⟨ji37, hji37⟩ : ∃ j_ : Int, (wrap64 ((wrap64 (8 * a2)) - 1)) = j_ := ⟨_, rfl⟩
          replace H : (if 0 ≤ (ji37) then (some (Go.bits .and .u64 (ji16) (IntKind.u64.wrap ((IntKind.u64.wrap ((shl .u64 1 (ji37)) * 2)) - 1)), 0, 0)) else (none)) = some (r1, r2, r3) := by (rw [hji37] at H; exact H)
          have hji37w : (IntKind.i64.wrap ((wrap64 (8 * a2)) - 1)) = ji37 := (i64_w _).trans hji37
          by_cases c38 : 0 ≤ (ji37)
          · rw [if_pos c38] at H
            have c38b0 := eq_true c38
            have c38b1 : decide (0 ≤ (ji37)) = true := decide_eq_true c38
            clear c38
            obtain ⟨ji39, hji39⟩ : ∃ j_ : Int, (shl .u64 1 (ji37)) = j_ := ⟨_, rfl⟩
            replace H : (some (Go.bits .and .u64 (ji16) (IntKind.u64.wrap ((IntKind.u64.wrap ((ji39) * 2)) - 1)), 0, 0)) = some (r1, r2, r3) := by (rw [hji39] at H; exact H)
            have hji39_ : (IntKind.u64.wrap (1 * 2 ^ min (ji37).toNat 64)) = ji39 := hji39
            have hji39z : (ji37) ≤ 64 → (IntKind.u64.wrap (1 * 2 ^ (ji37).toNat)) = ji39 := shl_small hji39
            have hji39u : (IntKind.u64.wrap (2 ^ min (ji37).toNat 64)) = ji39 := by have h_ := hji39_; rw [Int.one_mul] at h_; exact h_
            have hji39v : (ji37) ≤ 64 → (IntKind.u64.wrap (2 ^ (ji37).toNat)) = ji39 := fun hle_ => by have h_ := hji39z hle_; rw [Int.one_mul] at h_; exact h_
            simp only [Option.some.injEq, Prod.mk.injEq] at H
            obtain ⟨rfl, rfl, rfl⟩ := H
            have hnb40 := NB138_139.out
            have hnc40 := NB139_138.out
            obtain ⟨hcz41_0, hcz41_1, hfz41_0, hfz41_1⟩ := b2_ BK138.out
            go_wp2_with (first | ((with_reducible refine gate_callee (f := 104) rfl ?_); refine gL_ (some 22) Try.func104 #[.agg #[.slice A0_0 l0_0.length c0_0, .slice A0_1 l0_1.length c0_1], .int .u64 a1, .int .i64 a2, .int .i64 1] ?_; (with_reducible refine (host_ask.calls kj3 _ _ l0_0 _ _ l0_1 a1 a2 1 t140 t141 _ ?side1 ?side2 ?side3 ?side4 A11.out).mono ?_); (case side1 => exact cT_ (Kd.C_below HR0_0.out HB.out)); (case side2 => exact HC0_0.out); (case side3 => exact cT_ (Kd.C_below HR0_1.out HB.out)); (case side4 => exact HC0_1.out); rintro e w42 ⟨rfl, hb⟩; refine ⟨_, rfl, ?_⟩; replace BK138 := kB_ BK138 hb; replace BK139 := kB_ BK139 hb; replace HB := hB_ hb; (try clear hb)) | ((with_reducible refine gate_dst (N := 8) rfl ?_); refine bE_ 8 #[.int .i64 0, .int .u64 0] 34 ?_; intro gb142 hg w43 hbox hb; have BK142 := Aside0.mk hbox; have GW142 := geT_ w.heap.size hg; have GE142 := geT_ w.heap.size hg; have NB138_142 := nlT_ BK138.out hg; have NB142_138 := ngT_ BK138.out hg; have NB139_142 := nlT_ BK139.out hg; have NB142_139 := ngT_ BK139.out hg; replace BK138 := kB_ BK138 hb; replace BK139 := kB_ BK139 hb; replace HB := hB_ hb; clear hb hbox hg; have hnb44 := NB142_138.out; have hnc44 := NB138_142.out; have hnb45 := NB142_139.out; have hnc45 := NB139_142.out; obtain ⟨hcz46_0, hcz46_1, hfz46_0, hfz46_1⟩ := b2_ BK142.out; obtain ⟨hcz47_0, hcz47_1, hfz47_0, hfz47_1⟩ := b2_ BK138.out) | ((with_reducible refine gate_callee (f := 107) rfl ?_); refine gL_ (some 34) Try.func107 #[.agg #[.slice A0_0 l0_0.length c0_0, .slice A0_1 l0_1.length c0_1], .int .u64 (Go.bits .andNot .u64 a1 7)] ?_; (with_reducible refine (host_word.calls _ _ l0_0 _ _ l0_1 (Go.bits .andNot .u64 a1 7) t143 _ ?side1 ?side2 ?side3 ?side4 A13.out).mono ?_); (case side1 => exact Kd.C_below HR0_0.out beT_); (case side2 => exact HC0_0.out); (case side3 => exact Kd.C_below HR0_1.out beT_); (case side4 => exact HC0_1.out); rintro e w48 ⟨rfl, hb⟩; refine ⟨_, rfl, ?_⟩; replace BK138 := kB_ BK138 hb; replace BK139 := kB_ BK139 hb; replace BK142 := Aside0.mk (blk_below (g := gb142) (o := .cells #[.int .i64 t140, .int .u64 t141] 34 (0, 0)) (kP_ BK142.out) hb); replace HB := hB_ hb; (try clear hb); obtain ⟨hcz49_0, hcz49_1, hfz49_0, hfz49_1⟩ := b2_ BK139.out))
            refine bodyPost_ret (results_tc rfl _ _ gb139 34 #[.int .i64 0, .int .u64 0] (0, 0) _ rfl (kP_ BK139.out) Try.underlying34 rfl (by kernel_rfl)) rfl ?_
            exact ⟨by rfl, beT_⟩
          rw [if_neg c38] at H
          exact absurd H (by simp)
        rw [if_neg c15] at H
        exact absurd H (by simp)
      rw [if_neg c12] at H
      have c12b0 : (t140 == 0) = false := beq_eq_false_iff_ne.mpr c12
      have c12b1 : (t140 != 0) = true := bne_iff_ne.mpr c12
      simp only [Option.some.injEq, Prod.mk.injEq] at H
      obtain ⟨rfl, rfl, rfl⟩ := H
      have hnb50 := NB138_139.out
      have hnc50 := NB139_138.out
      obtain ⟨hcz51_0, hcz51_1, hfz51_0, hfz51_1⟩ := b2_ BK138.out
      try go_wp2_with (first | ((with_reducible refine gate_callee (f := 104) rfl ?_); refine gL_ (some 22) Try.func104 #[.agg #[.slice A0_0 l0_0.length c0_0, .slice A0_1 l0_1.length c0_1], .int .u64 a1, .int .i64 a2, .int .i64 1] ?_; (with_reducible refine (host_ask.calls kj3 _ _ l0_0 _ _ l0_1 a1 a2 1 t140 t141 _ ?side1 ?side2 ?side3 ?side4 A11.out).mono ?_); (case side1 => exact cT_ (Kd.C_below HR0_0.out HB.out)); (case side2 => exact HC0_0.out); (case side3 => exact cT_ (Kd.C_below HR0_1.out HB.out)); (case side4 => exact HC0_1.out); rintro e w52 ⟨rfl, hb⟩; refine ⟨_, rfl, ?_⟩; replace BK138 := kB_ BK138 hb; replace BK139 := kB_ BK139 hb; replace HB := hB_ hb; (try clear hb)) | ((with_reducible refine gate_dst (N := 8) rfl ?_); refine bE_ 8 #[.int .i64 0, .int .u64 0] 34 ?_; intro gb142 hg w53 hbox hb; have BK142 := Aside0.mk hbox; have GW142 := geT_ w.heap.size hg; have GE142 := geT_ w.heap.size hg; have NB138_142 := nlT_ BK138.out hg; have NB142_138 := ngT_ BK138.out hg; have NB139_142 := nlT_ BK139.out hg; have NB142_139 := ngT_ BK139.out hg; replace BK138 := kB_ BK138 hb; replace BK139 := kB_ BK139 hb; replace HB := hB_ hb; clear hb hbox hg; have hnb54 := NB142_138.out; have hnc54 := NB138_142.out; have hnb55 := NB142_139.out; have hnc55 := NB139_142.out; obtain ⟨hcz56_0, hcz56_1, hfz56_0, hfz56_1⟩ := b2_ BK142.out))
      have n0_ : Aside0 (((w53.setCell ⟨gb142, 0, none⟩ (.int .i64 t140)).setCell ⟨gb142, 1, none⟩ (.int .u64 t141)).heap[gb138]? = some (.cells #[.slice A0_0 l0_0.length c0_0, .slice A0_1 l0_1.length c0_1] 25 (0, 0))) := ⟨bfT_ BK138.out⟩
      have n1_ : Aside0 (((w53.setCell ⟨gb142, 0, none⟩ (.int .i64 t140)).setCell ⟨gb142, 1, none⟩ (.int .u64 t141)).heap[gb139]? = some (.cells #[.int .i64 0, .int .u64 0] 34 (0, 0))) := ⟨bfT_ BK139.out⟩
      have n2_ : Aside0 (((w53.setCell ⟨gb142, 0, none⟩ (.int .i64 t140)).setCell ⟨gb142, 1, none⟩ (.int .u64 t141)).heap[gb142]? = some (.cells #[.int .i64 t140, .int .u64 t141] 34 (0, 0))) := ⟨kP_ BK142.out⟩
      have n3_ : Aside0 (Below w.heap.size w ((w53.setCell ⟨gb142, 0, none⟩ (.int .i64 t140)).setCell ⟨gb142, 1, none⟩ (.int .u64 t141))) := ⟨beT_⟩
      (try clear BK138)
      (try clear BK139)
      (try clear BK142)
      (try clear HB)
      generalize ((w53.setCell ⟨gb142, 0, none⟩ (.int .i64 t140)).setCell ⟨gb142, 1, none⟩ (.int .u64 t141)) = w57 at n0_ n1_ n2_ n3_ ⊢
      have BK138 := n0_
      have BK139 := n1_
      have BK142 := n2_
      have HB := n3_
      clear n0_ n1_ n2_ n3_
      replace BK138 := Aside0.mk (blk_drew BK138.out)
      replace BK139 := Aside0.mk (blk_drew BK139.out)
      replace BK142 := Aside0.mk (blk_drew BK142.out)
      replace HB := Aside0.mk (below_drew1 HB.out)
      refine start_ (n := 3) (S := fun w' => w'.cell? ⟨gb142, 0, none⟩ = some (.int .i64 t140) ∧ w'.cell? ⟨gb142, 1, none⟩ = some (.int .u64 t141)) (ds := []) (mb_ 3 0) (by kernel_rfl) rfl rfl ⟨(blk_cell BK142.out 0).trans rfl, (blk_cell BK142.out 1).trans rfl⟩ (fun hHeld => ?_)
      generalize w57.drew = w58 at BK138 BK139 BK142 HB hHeld ⊢
      refine pure_ (i := 1) (N := some 6) (v := ?_) (a' := ?_) (mb_ 3 2) rfl rfl (by kernel_rfl) (fun _ _ _ h => h) (Or.inl ⟨by rfl, ?_⟩) ?_ ?_
      rotate_left
      · intro w'
        go_simp
        with_reducible rfl
      rotate_left
      · simp only [Act.put, List.setIfInBounds_toArray, List.set_cons_zero, List.set_cons_succ, i64_w, i32_w]
        rfl
      refine take_ (i := 0) (N := some 26) (v := ?_) (a' := ?_) (mb_ 3 3) rfl rfl (by kernel_rfl) (fun _ _ _ h => h) (Or.inl ⟨by rfl, ?_⟩) hHeld ?_ ?_
      rotate_left
      · rintro w' ⟨s0, s1⟩
        go_simp
        with_reducible rfl
      rotate_left
      · simp only [Act.put, List.setIfInBounds_toArray, List.set_cons_zero, List.set_cons_succ, i64_w, i32_w]
        rfl
      refine one_ (i := 2) (N := none) (mb_ 3 7) rfl rfl (by kernel_rfl) (by decide) (fun K hK => ?_)
      have hs59 : w58.cell? ⟨gb139, 0, none⟩ = some (.int .i64 0) := (blk_cell BK139.out 0).trans rfl
      have hfs59 := blk_frozen BK139.out 0
      have hns59_0 := NB138_139.out
      have hns59_2 := NB142_139.out
      have hms59_0 := NB139_138.out
      have hms59_2 := NB139_142.out
      have hs60 : w58.cell? ⟨gb139, 1, none⟩ = some (.int .u64 0) := (blk_cell BK139.out 1).trans rfl
      have hfs60 := blk_frozen BK139.out 1
      have hns60_0 := NB138_139.out
      have hns60_2 := NB142_139.out
      have hms60_0 := NB139_138.out
      have hms60_2 := NB139_142.out
      refine skip_ (w1 := ?_) (by rfl) rfl ?_ ?_
      rotate_left
      · go_simp
        rfl
      refine hK.out _ _ ⟨((cell_far (p := ⟨gb139, _, none⟩) NB142_139.out _).trans (((cell_far (p := ⟨gb139, _, none⟩) NB142_139.out _).trans (hHeld.1)))), ((cell_far (p := ⟨gb139, _, none⟩) NB142_139.out _).trans (((cell_far (p := ⟨gb139, _, none⟩) NB142_139.out _).trans (hHeld.2))))⟩ (fun hHeld => ?_)
      clear hK K
      refine done_ (by kernel_rfl) ?_
      try go_wp2
      refine bodyPost_ret (results_tc rfl _ _ gb139 34 #[.int .i64 t140, .int .u64 t141] (0, 0) _ rfl (kP_ BK139.out) Try.underlying34 rfl (by kernel_rfl)) rfl ?_
      exact ⟨r3_, beT_⟩

end Go.Proofs.Ytgkjdpdmmlalcaa.F
end
