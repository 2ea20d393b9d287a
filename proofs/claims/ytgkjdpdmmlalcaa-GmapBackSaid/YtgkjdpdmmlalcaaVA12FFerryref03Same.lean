import Derived.Test.YtgkjdpdmmlalcaaVZF0
import Derived.Test.YtgkjdpdmmlalcaaVA0
import Derived.Test.YtgkjdpdmmlalcaaVA11
section
namespace Go.Proofs.Ytgkjdpdmmlalcaa.F
open Go.RowKit Go.Proofs.YtgkjdpdmmlalcaaW.PrintWords Go.Proofs.YtgkjdpdmmlalcaaW.PrintLast Go.Proofs.YtgkjdpdmmlalcaaW.PrintMore
attribute [local go_sem] max2_int min2_int max_two min_two max_three min_three max_four min_four
set_option linter.unusedVariables false
set_option linter.unusedSimpArgs false

attribute [local go_sem high] eqA83 eqA88
mutual
def ferryref03_Same.j0 : Nat → Bool → List (S83) → List (S88) → List (S83) → List (S88) → Option (Bool)
  | 0, _, _, _, _, _ => none
  | k + 1, x22, x335000, x335001, x336000, x336001 => if x22 = true then (some false) else (ferryref03_Same.l0 k 0 x335000 x335001 x336000 x336001)
def ferryref03_Same.l0 : Nat → Int → List (S83) → List (S88) → List (S83) → List (S88) → Option (Bool)
  | 0, _, _, _, _, _ => none
  | k + 1, x5, x335000, x335001, x336000, x336001 => if x5 < (x335000.length : Int) then (if 0 ≤ x5 then (if x5 < (x336000.length : Int) then (if (!(((rd_T83 x335000 x5).f0) == ((rd_T83 x336000 x5).f0)) || (!(((rd_T83 x335000 x5).f1) == ((rd_T83 x336000 x5).f1)))) = true then (some false) else (ferryref03_Same.l0 k (wrap64 (x5 + 1)) x335000 x335001 x336000 x336001)) else (none)) else (none)) else (ferryref03_Same.l1 k 0 x335000 x335001 x336000 x336001)
def ferryref03_Same.l1 : Nat → Int → List (S83) → List (S88) → List (S83) → List (S88) → Option (Bool)
  | 0, _, _, _, _, _ => none
  | k + 1, x6, x335000, x335001, x336000, x336001 => if x6 < (x335001.length : Int) then (if 0 ≤ x6 then (if x6 < (x336001.length : Int) then (if (!(((rd_T88 x335001 x6).f0) == ((rd_T88 x336001 x6).f0)) || (!(((rd_T88 x335001 x6).f1) == ((rd_T88 x336001 x6).f1)))) = true then (some false) else (ferryref03_Same.l1 k (wrap64 (x6 + 1)) x335000 x335001 x336000 x336001)) else (none)) else (none)) else (some true)
end
def ferryref03_Same.f (k : Nat) (l0_0 : List (S83)) (l0_1 : List (S88)) (l1_0 : List (S83)) (l1_1 : List (S88)) : Option (Bool) := if (l0_0.length : Int) = (l1_0.length : Int) then (ferryref03_Same.j0 k ((l0_1.length : Int) != (l1_1.length : Int)) l0_0 l0_1 l1_0 l1_1) else (ferryref03_Same.j0 k true l0_0 l0_1 l1_0 l1_1)
set_option maxHeartbeats 8000000 in
set_option maxRecDepth 100000 in
theorem ferryref03_Same.calls (k : Nat) (A0_0 : Option Addr) (c0_0 : Nat) (l0_0 : List (S83)) (A0_1 : Option Addr) (c0_1 : Nat) (l0_1 : List (S88)) (A1_0 : Option Addr) (c1_0 : Nat) (l1_0 : List (S83)) (A1_1 : Option Addr) (c1_1 : Nat) (l1_1 : List (S88)) (r : Bool) (w : World) (hr0_0 : Kd.C k83 w A0_0 l0_0.length l0_0) (hc0_0 : l0_0.length ≤ c0_0) (hr0_1 : Kd.C k88 w A0_1 l0_1.length l0_1) (hc0_1 : l0_1.length ≤ c0_1) (hr1_0 : Kd.C k83 w A1_0 l1_0.length l1_0) (hc1_0 : l1_0.length ≤ c1_0) (hr1_1 : Kd.C k88 w A1_1 l1_1.length l1_1) (hc1_1 : l1_1.length ≤ c1_1) (h : ferryref03_Same.f k l0_0 l0_1 l1_0 l1_1 = some r) :
    Calls Try.prog 40 #[.agg #[.slice A0_0 l0_0.length c0_0, .slice A0_1 l0_1.length c0_1], .agg #[.slice A1_0 l1_0.length c1_0, .slice A1_1 l1_1.length c1_1]] w fun e w' => e = .returned (.bool r) ∧ Below w.heap.size w w' := by
  have hu25 := Try.underlying25
  have hu83 := Try.underlying83
  have hu88 := Try.underlying88
  have HR0_0 := Aside0.mk hr0_0
  have HC0_0 := Aside0.mk hc0_0
  clear hr0_0 hc0_0
  have HR0_1 := Aside0.mk hr0_1
  have HC0_1 := Aside0.mk hc0_1
  clear hr0_1 hc0_1
  have HR1_0 := Aside0.mk hr1_0
  have HC1_0 := Aside0.mk hc1_0
  clear hr1_0 hc1_0
  have HR1_1 := Aside0.mk hr1_1
  have HC1_1 := Aside0.mk hc1_1
  clear hr1_1 hc1_1
  have HB := Aside0.mk (Below.refl w.heap.size w)
  have H : (if (l0_0.length : Int) = (l1_0.length : Int) then (ferryref03_Same.j0 k ((l0_1.length : Int) != (l1_1.length : Int)) l0_0 l0_1 l1_0 l1_1) else (ferryref03_Same.j0 k true l0_0 l0_1 l1_0 l1_1)) = some r := h
  clear h
  have HC3 := Aside0.mk H
  clear H
  go_enter Try.func40, Try.ntmps40
  go_upto_region 1 with (first | ((with_reducible refine gate_dst (N := 2) rfl ?_); (try (refine gate_guard (by rfl) ?_; dsimp only)); refine bE_ 2 #[.slice A0_0 l0_0.length c0_0, .slice A0_1 l0_1.length c0_1] 25 ?_; intro gb334 hg w4 hbox hb; have BK334 := Aside0.mk hbox; have GW334 := geT_ w.heap.size hg; have GE334 := geT_ w.heap.size hg; replace HB := hB_ hb; clear hb hbox hg) | ((with_reducible refine gate_dst (N := 3) rfl ?_); (try (refine gate_guard (by rfl) ?_; dsimp only)); refine bE_ 3 #[.slice A1_0 l1_0.length c1_0, .slice A1_1 l1_1.length c1_1] 25 ?_; intro gb335 hg w5 hbox hb; have BK335 := Aside0.mk hbox; have GW335 := geT_ w.heap.size hg; have GE335 := geT_ w.heap.size hg; have NB334_335 := nlT_ BK334.out hg; have NB335_334 := ngT_ BK334.out hg; replace BK334 := kB_ BK334 hb; replace HB := hB_ hb; clear hb hbox hg))
  repeat (go_quiet (first | ((with_reducible refine gate_dst (N := 2) rfl ?_); (try (refine gate_guard (by rfl) ?_; dsimp only)); refine bE_ 2 #[.slice A0_0 l0_0.length c0_0, .slice A0_1 l0_1.length c0_1] 25 ?_; intro gb334 hg w4 hbox hb; have BK334 := Aside0.mk hbox; have GW334 := geT_ w.heap.size hg; have GE334 := geT_ w.heap.size hg; replace HB := hB_ hb; clear hb hbox hg) | ((with_reducible refine gate_dst (N := 3) rfl ?_); (try (refine gate_guard (by rfl) ?_; dsimp only)); refine bE_ 3 #[.slice A1_0 l1_0.length c1_0, .slice A1_1 l1_1.length c1_1] 25 ?_; intro gb335 hg w5 hbox hb; have BK335 := Aside0.mk hbox; have GW335 := geT_ w.heap.size hg; have GE335 := geT_ w.heap.size hg; have NB334_335 := nlT_ BK334.out hg; have NB335_334 := ngT_ BK334.out hg; replace BK334 := kB_ BK334 hb; replace HB := hB_ hb; clear hb hbox hg)); go_upto_region 1 with (first | ((with_reducible refine gate_dst (N := 2) rfl ?_); (try (refine gate_guard (by rfl) ?_; dsimp only)); refine bE_ 2 #[.slice A0_0 l0_0.length c0_0, .slice A0_1 l0_1.length c0_1] 25 ?_; intro gb334 hg w4 hbox hb; have BK334 := Aside0.mk hbox; have GW334 := geT_ w.heap.size hg; have GE334 := geT_ w.heap.size hg; replace HB := hB_ hb; clear hb hbox hg) | ((with_reducible refine gate_dst (N := 3) rfl ?_); (try (refine gate_guard (by rfl) ?_; dsimp only)); refine bE_ 3 #[.slice A1_0 l1_0.length c1_0, .slice A1_1 l1_1.length c1_1] 25 ?_; intro gb335 hg w5 hbox hb; have BK335 := Aside0.mk hbox; have GW335 := geT_ w.heap.size hg; have GE335 := geT_ w.heap.size hg; have NB334_335 := nlT_ BK334.out hg; have NB335_334 := ngT_ BK334.out hg; replace BK334 := kB_ BK334 hb; replace HB := hB_ hb; clear hb hbox hg)))
  (try simp only [Act.put, List.setIfInBounds_toArray, List.set_cons_zero, List.set_cons_succ])
  go_cut [22] (fun v22 wc => ∃ (kq : Nat) (x22_2 : Bool), v22 = .bool x22_2 ∧ Aside0 (ferryref03_Same.j0 kq x22_2 l0_0 l0_1 l1_0 l1_1 = some r) ∧ Aside0 (kq ≤ k) ∧ Aside0 (wc.heap[gb334]? = some (.cells #[(.slice A0_0 l0_0.length c0_0), (.slice A0_1 l0_1.length c0_1)] 25 (0, 0))) ∧ Aside0 (wc.heap[gb335]? = some (.cells #[(.slice A1_0 l1_0.length c1_0), (.slice A1_1 l1_1.length c1_1)] 25 (0, 0))) ∧ Aside0 (Below w.heap.size w wc))
  case first =>
    have H := HC3.out
    clear HC3
    by_cases c6 : (l0_0.length : Int) = (l1_0.length : Int)
    · rw [if_pos c6] at H
      have c6b0 : ((l0_0.length : Int) == (l1_0.length : Int)) = true := beq_iff_eq.mpr c6
      have c6b1 : ((l0_0.length : Int) != (l1_0.length : Int)) = false := bne_eq_false_iff_eq.mpr c6
      have c6b2 : (l0_0.length == l1_0.length) = true := by first | simpa using c6 | (simp at c6 ⊢; omega)
      clear c6
      (first | rw [c6b0] | (simp only [i64_w, i32_w]; rw [c6b0]) | skip)
      have H' := Aside0.mk H
      clear H
      have hnb7 := NB334_335.out
      have hnc7 := NB335_334.out
      obtain ⟨hcz8_0, hcz8_1, hfz8_0, hfz8_1⟩ := b2_ BK334.out
      obtain ⟨hcz9_0, hcz9_1, hfz9_0, hfz9_1⟩ := b2_ BK335.out
      go_wp2
      repeat (go_quiet (fail); try go_wp2)
      go_meet
      case rel => exact ⟨_, (((l0_1.length : Int) != (l1_1.length : Int))), r1_, H', ⟨r2_⟩, ⟨bT_ BK334.out⟩, ⟨bT_ BK335.out⟩, ⟨beT_⟩⟩
    rw [if_neg c6] at H
    have c6b0 : ((l0_0.length : Int) == (l1_0.length : Int)) = false := beq_eq_false_iff_ne.mpr c6
    have c6b1 : ((l0_0.length : Int) != (l1_0.length : Int)) = true := bne_iff_ne.mpr c6
    have c6b2 : (l0_0.length == l1_0.length) = false := by first | simpa using c6 | (simp at c6 ⊢; omega)
    (first | rw [c6b0] | (simp only [i64_w, i32_w]; rw [c6b0]) | skip)
    have H' := Aside0.mk H
    clear H
    have hnb10 := NB334_335.out
    have hnc10 := NB335_334.out
    obtain ⟨hcz11_0, hcz11_1, hfz11_0, hfz11_1⟩ := b2_ BK334.out
    obtain ⟨hcz12_0, hcz12_1, hfz12_0, hfz12_1⟩ := b2_ BK335.out
    go_wp2
    repeat (go_quiet (fail); try go_wp2)
    go_meet
    case rel => exact ⟨_, (true), r1_, H', ⟨r2_⟩, ⟨bT_ BK334.out⟩, ⟨bT_ BK335.out⟩, ⟨beT_⟩⟩
  case rest =>
    clear HC3
    try clear c1
    try clear p2
    try clear c4
    try clear c6
    try clear c6b0
    try clear c6b1
    try clear c6b2
    try clear c7
    try clear c10
    try clear hcz11_0
    try clear hcz11_1
    try clear hcz12_0
    try clear hcz12_1
    try clear hcz8_0
    try clear hcz8_1
    try clear hcz9_0
    try clear hcz9_1
    try clear hfz11_0
    try clear hfz11_1
    try clear hfz12_0
    try clear hfz12_1
    try clear hfz8_0
    try clear hfz8_1
    try clear hfz9_0
    try clear hfz9_1
    obtain ⟨kq, x22_2, rfl, HA, HJ2, BK334, BK335, HB⟩ := hcut
    cases kq with
    | zero => exact absurd HA.out (by simp [ferryref03_Same.j0])
    | succ kj2 =>
      have H := HA.out
      clear HA
      simp only [ferryref03_Same.j0] at H
      by_cases c13 : x22_2 = true
      · subst c13
        replace H := hP_ H
        obtain rfl := Option.some.inj H
        go_wp2
        repeat (go_quiet (fail); try go_wp2)
        go_ret
        exact ⟨r3_, beT_⟩
      replace c13 := Bool.eq_false_iff.mpr c13
      subst c13
      replace H := hN_ H
      have H' := Aside0.mk H
      clear H
      go_wp2
      repeat (go_quiet (fail); try go_wp2)
      go_loopg [5] kj2 (fun kq v5 w' => ∃ (x5_2 : Int), v5 = .int .i64 x5_2 ∧ Aside0 (ferryref03_Same.l0 kq x5_2 l0_0 l0_1 l1_0 l1_1 = some r) ∧ Aside0 (kq ≤ kj2) ∧ Aside0 (w'.heap[gb334]? = some (.cells #[(.slice A0_0 l0_0.length c0_0), (.slice A0_1 l0_1.length c0_1)] 25 (0, 0))) ∧ Aside0 (w'.heap[gb335]? = some (.cells #[(.slice A1_0 l1_0.length c1_0), (.slice A1_1 l1_1.length c1_1)] 25 (0, 0))) ∧ Aside0 (Below w.heap.size w w'))
      case atStart => exact ⟨(0), r1_, H', ⟨Nat.le_refl _⟩, ⟨bT_ BK334.out⟩, ⟨bT_ BK335.out⟩, ⟨beT_⟩⟩
      case round =>
        clear H'
        try clear c1
        try clear p2
        try clear c4
        try clear c6
        try clear c6b0
        try clear c6b1
        try clear c6b2
        try clear c7
        try clear c10
        try clear c13
        try clear hcz11_0
        try clear hcz11_1
        try clear hcz12_0
        try clear hcz12_1
        try clear hcz8_0
        try clear hcz8_1
        try clear hcz9_0
        try clear hcz9_1
        try clear hfz11_0
        try clear hfz11_1
        try clear hfz12_0
        try clear hfz12_1
        try clear hfz8_0
        try clear hfz8_1
        try clear hfz9_0
        try clear hfz9_1
        try clear p2
        obtain ⟨x5_2, rfl, HA, HK2, BK334, BK335, HB⟩ := hrel
        cases gk with
        | zero => exact absurd HA.out (by simp [ferryref03_Same.l0])
        | succ k2 =>
          have H := HA.out
          clear HA
          simp only [ferryref03_Same.l0] at H
          by_cases c14 : x5_2 < (l0_0.length : Int)
          · rw [if_pos c14] at H
            have c14b0 : decide (x5_2 < (l0_0.length : Int)) = true := decide_eq_true c14
            clear c14
            by_cases c15 : 0 ≤ x5_2
            · rw [if_pos c15] at H
              have c15b0 : decide (0 ≤ x5_2) = true := decide_eq_true c15
              clear c15
              by_cases c16 : x5_2 < (l1_0.length : Int)
              · rw [if_pos c16] at H
                have c16b0 : decide (x5_2 < (l1_0.length : Int)) = true := decide_eq_true c16
                clear c16
                by_cases c17 : (!(((rd_T83 l0_0 x5_2).f0) == ((rd_T83 l1_0 x5_2).f0)) || (!(((rd_T83 l0_0 x5_2).f1) == ((rd_T83 l1_0 x5_2).f1)))) = true
                · rw [if_pos c17] at H
                  have c17b0 : (!(((rd_T83 l0_0 x5_2).f0) == ((rd_T83 l1_0 x5_2).f0)) || (!(((rd_T83 l0_0 x5_2).f1) == ((rd_T83 l1_0 x5_2).f1)))) = true := c17
                  clear c17
                  obtain rfl := Option.some.inj H
                  have hnb18 := NB334_335.out
                  have hnc18 := NB335_334.out
                  obtain ⟨hcz19_0, hcz19_1, hfz19_0, hfz19_1⟩ := b2_ BK334.out
                  have p336 : 0 ≤ (x5_2 : Int) := dT_
                  have q336 : x5_2 < (l0_0.length : Int) := dT_
                  obtain ⟨ad336, e336, hx336_0, hx336_1⟩ := at_T83 HR0_0.out x5_2 p336 q336
                  cases e336
                  replace hx336_0 := hX_ hx336_0
                  replace hx336_1 := hX_ hx336_1
                  replace p336 := eq_true p336
                  replace q336 := eq_true q336
                  obtain ⟨hcz20_0, hcz20_1, hfz20_0, hfz20_1⟩ := b2_ BK335.out
                  have p337 : 0 ≤ (x5_2 : Int) := dT_
                  have q337 : x5_2 < (l1_0.length : Int) := dT_
                  obtain ⟨ad337, e337, hx337_0, hx337_1⟩ := at_T83 HR1_0.out x5_2 p337 q337
                  cases e337
                  replace hx337_0 := hX_ hx337_0
                  replace hx337_1 := hX_ hx337_1
                  replace p337 := eq_true p337
                  replace q337 := eq_true q337
                  go_wp2
                  repeat (go_quiet (fail); try go_wp2)
                  go_ret
                  exact ⟨r3_, beT_⟩
                rw [if_neg c17] at H
                have c17b0 : (!(((rd_T83 l0_0 x5_2).f0) == ((rd_T83 l1_0 x5_2).f0)) || (!(((rd_T83 l0_0 x5_2).f1) == ((rd_T83 l1_0 x5_2).f1)))) = false := by simpa using c17
                clear c17
                have H' := Aside0.mk H
                clear H
                have hnb21 := NB334_335.out
                have hnc21 := NB335_334.out
                obtain ⟨hcz22_0, hcz22_1, hfz22_0, hfz22_1⟩ := b2_ BK334.out
                have p336 : 0 ≤ (x5_2 : Int) := dT_
                have q336 : x5_2 < (l0_0.length : Int) := dT_
                obtain ⟨ad336, e336, hx336_0, hx336_1⟩ := at_T83 HR0_0.out x5_2 p336 q336
                cases e336
                replace hx336_0 := hX_ hx336_0
                replace hx336_1 := hX_ hx336_1
                replace p336 := eq_true p336
                replace q336 := eq_true q336
                obtain ⟨hcz23_0, hcz23_1, hfz23_0, hfz23_1⟩ := b2_ BK335.out
                have p337 : 0 ≤ (x5_2 : Int) := dT_
                have q337 : x5_2 < (l1_0.length : Int) := dT_
                obtain ⟨ad337, e337, hx337_0, hx337_1⟩ := at_T83 HR1_0.out x5_2 p337 q337
                cases e337
                replace hx337_0 := hX_ hx337_0
                replace hx337_1 := hX_ hx337_1
                replace p337 := eq_true p337
                replace q337 := eq_true q337
                go_wp2
                repeat (go_quiet (fail); try go_wp2)
                go_roundg k2
                case measure => have := HJ2.out; have := HK2.out; omega
                case rel => exact ⟨(wrap64 (x5_2 + 1)), r1_, H', ⟨by have := HJ2.out; have := HK2.out; omega⟩, ⟨bT_ BK334.out⟩, ⟨bT_ BK335.out⟩, ⟨beT_⟩⟩
              rw [if_neg c16] at H
              exact absurd H (by simp)
            rw [if_neg c15] at H
            exact absurd H (by simp)
          rw [if_neg c14] at H
          have c14b0 : decide (x5_2 < (l0_0.length : Int)) = false := decide_eq_false c14
          clear c14
          have H' := Aside0.mk H
          clear H
          have hnb24 := NB334_335.out
          have hnc24 := NB335_334.out
          obtain ⟨hcz25_0, hcz25_1, hfz25_0, hfz25_1⟩ := b2_ BK334.out
          go_wp2
          repeat (go_quiet (fail); try go_wp2)
          go_loopg [6] k2 (fun kq v6 w' => ∃ (x6_3 : Int), v6 = .int .i64 x6_3 ∧ Aside0 (ferryref03_Same.l1 kq x6_3 l0_0 l0_1 l1_0 l1_1 = some r) ∧ Aside0 (kq ≤ k2) ∧ Aside0 (w'.heap[gb334]? = some (.cells #[(.slice A0_0 l0_0.length c0_0), (.slice A0_1 l0_1.length c0_1)] 25 (0, 0))) ∧ Aside0 (w'.heap[gb335]? = some (.cells #[(.slice A1_0 l1_0.length c1_0), (.slice A1_1 l1_1.length c1_1)] 25 (0, 0))) ∧ Aside0 (Below w.heap.size w w'))
          case atStart => exact ⟨(0), r1_, H', ⟨Nat.le_refl _⟩, ⟨bT_ BK334.out⟩, ⟨bT_ BK335.out⟩, ⟨beT_⟩⟩
          case round =>
            clear H'
            try clear c1
            try clear c2
            try clear p2
            try clear p3
            try clear q3
            try clear hx3
            try clear c4
            try clear c6
            try clear c6b0
            try clear c6b1
            try clear c6b2
            try clear p6
            try clear c7
            try clear c10
            try clear c13
            try clear c14
            try clear c14b0
            try clear c15
            try clear c15b0
            try clear c16
            try clear c16b0
            try clear c17
            try clear c17b0
            try clear c18
            try clear c21
            try clear c24
            try clear hcz11_0
            try clear hcz11_1
            try clear hcz12_0
            try clear hcz12_1
            try clear hcz19_0
            try clear hcz19_1
            try clear hcz20_0
            try clear hcz20_1
            try clear hcz22_0
            try clear hcz22_1
            try clear hcz23_0
            try clear hcz23_1
            try clear hcz25_0
            try clear hcz25_1
            try clear hcz8_0
            try clear hcz8_1
            try clear hcz9_0
            try clear hcz9_1
            try clear hfz11_0
            try clear hfz11_1
            try clear hfz12_0
            try clear hfz12_1
            try clear hfz19_0
            try clear hfz19_1
            try clear hfz20_0
            try clear hfz20_1
            try clear hfz22_0
            try clear hfz22_1
            try clear hfz23_0
            try clear hfz23_1
            try clear hfz25_0
            try clear hfz25_1
            try clear hfz8_0
            try clear hfz8_1
            try clear hfz9_0
            try clear hfz9_1
            try clear hx336_0
            try clear hx336_1
            try clear hx337_0
            try clear hx337_1
            try clear p2
            try clear p336
            try clear p337
            try clear q336
            try clear q337
            obtain ⟨x6_3, rfl, HA, HK3, BK334, BK335, HB⟩ := hrel
            cases gk with
            | zero => exact absurd HA.out (by simp [ferryref03_Same.l1])
            | succ k3 =>
              have H := HA.out
              clear HA
              simp only [ferryref03_Same.l1] at H
              by_cases c26 : x6_3 < (l0_1.length : Int)
              · rw [if_pos c26] at H
                have c26b0 : decide (x6_3 < (l0_1.length : Int)) = true := decide_eq_true c26
                clear c26
                by_cases c27 : 0 ≤ x6_3
                · rw [if_pos c27] at H
                  have c27b0 : decide (0 ≤ x6_3) = true := decide_eq_true c27
                  clear c27
                  by_cases c28 : x6_3 < (l1_1.length : Int)
                  · rw [if_pos c28] at H
                    have c28b0 : decide (x6_3 < (l1_1.length : Int)) = true := decide_eq_true c28
                    clear c28
                    by_cases c29 : (!(((rd_T88 l0_1 x6_3).f0) == ((rd_T88 l1_1 x6_3).f0)) || (!(((rd_T88 l0_1 x6_3).f1) == ((rd_T88 l1_1 x6_3).f1)))) = true
                    · rw [if_pos c29] at H
                      have c29b0 : (!(((rd_T88 l0_1 x6_3).f0) == ((rd_T88 l1_1 x6_3).f0)) || (!(((rd_T88 l0_1 x6_3).f1) == ((rd_T88 l1_1 x6_3).f1)))) = true := c29
                      clear c29
                      obtain rfl := Option.some.inj H
                      have hnb30 := NB334_335.out
                      have hnc30 := NB335_334.out
                      obtain ⟨hcz31_0, hcz31_1, hfz31_0, hfz31_1⟩ := b2_ BK334.out
                      have p338 : 0 ≤ (x6_3 : Int) := dT_
                      have q338 : x6_3 < (l0_1.length : Int) := dT_
                      obtain ⟨ad338, e338, hx338_0, hx338_1⟩ := at_T88 HR0_1.out x6_3 p338 q338
                      cases e338
                      replace hx338_0 := hX_ hx338_0
                      replace hx338_1 := hX_ hx338_1
                      replace p338 := eq_true p338
                      replace q338 := eq_true q338
                      obtain ⟨hcz32_0, hcz32_1, hfz32_0, hfz32_1⟩ := b2_ BK335.out
                      have p339 : 0 ≤ (x6_3 : Int) := dT_
                      have q339 : x6_3 < (l1_1.length : Int) := dT_
                      obtain ⟨ad339, e339, hx339_0, hx339_1⟩ := at_T88 HR1_1.out x6_3 p339 q339
                      cases e339
                      replace hx339_0 := hX_ hx339_0
                      replace hx339_1 := hX_ hx339_1
                      replace p339 := eq_true p339
                      replace q339 := eq_true q339
                      go_wp2
                      repeat (go_quiet (fail); try go_wp2)
                      go_ret
                      exact ⟨r3_, beT_⟩
                    rw [if_neg c29] at H
                    have c29b0 : (!(((rd_T88 l0_1 x6_3).f0) == ((rd_T88 l1_1 x6_3).f0)) || (!(((rd_T88 l0_1 x6_3).f1) == ((rd_T88 l1_1 x6_3).f1)))) = false := by simpa using c29
                    clear c29
                    have H' := Aside0.mk H
                    clear H
                    have hnb33 := NB334_335.out
                    have hnc33 := NB335_334.out
                    obtain ⟨hcz34_0, hcz34_1, hfz34_0, hfz34_1⟩ := b2_ BK334.out
                    have p338 : 0 ≤ (x6_3 : Int) := dT_
                    have q338 : x6_3 < (l0_1.length : Int) := dT_
                    obtain ⟨ad338, e338, hx338_0, hx338_1⟩ := at_T88 HR0_1.out x6_3 p338 q338
                    cases e338
                    replace hx338_0 := hX_ hx338_0
                    replace hx338_1 := hX_ hx338_1
                    replace p338 := eq_true p338
                    replace q338 := eq_true q338
                    obtain ⟨hcz35_0, hcz35_1, hfz35_0, hfz35_1⟩ := b2_ BK335.out
                    have p339 : 0 ≤ (x6_3 : Int) := dT_
                    have q339 : x6_3 < (l1_1.length : Int) := dT_
                    obtain ⟨ad339, e339, hx339_0, hx339_1⟩ := at_T88 HR1_1.out x6_3 p339 q339
                    cases e339
                    replace hx339_0 := hX_ hx339_0
                    replace hx339_1 := hX_ hx339_1
                    replace p339 := eq_true p339
                    replace q339 := eq_true q339
                    go_wp2
                    repeat (go_quiet (fail); try go_wp2)
                    go_roundg k3
                    case measure => have := HJ2.out; have := HK2.out; have := HK3.out; omega
                    case rel => exact ⟨(wrap64 (x6_3 + 1)), r1_, H', ⟨by have := HJ2.out; have := HK2.out; have := HK3.out; omega⟩, ⟨bT_ BK334.out⟩, ⟨bT_ BK335.out⟩, ⟨beT_⟩⟩
                  rw [if_neg c28] at H
                  exact absurd H (by simp)
                rw [if_neg c27] at H
                exact absurd H (by simp)
              rw [if_neg c26] at H
              have c26b0 : decide (x6_3 < (l0_1.length : Int)) = false := decide_eq_false c26
              clear c26
              obtain rfl := Option.some.inj H
              have hnb36 := NB334_335.out
              have hnc36 := NB335_334.out
              obtain ⟨hcz37_0, hcz37_1, hfz37_0, hfz37_1⟩ := b2_ BK334.out
              go_wp2
              repeat (go_quiet (fail); try go_wp2)
              go_ret
              exact ⟨r3_, beT_⟩

end Go.Proofs.Ytgkjdpdmmlalcaa.F
end
