import Derived.Test.YtgkjdpdmmlalcaaKZF0
import Derived.Test.YtgkjdpdmmlalcaaKA0
import Derived.Test.YtgkjdpdmmlalcaaKA2HHost0
import Derived.Test.YtgkjdpdmmlalcaaKA3
import Derived.Test.YtgkjdpdmmlalcaaKA4HHost11
import Derived.Test.YtgkjdpdmmlalcaaKA5
import Derived.Test.YtgkjdpdmmlalcaaKA7
import Derived.Test.YtgkjdpdmmlalcaaKA8HHost6
import Derived.Test.YtgkjdpdmmlalcaaKA10PHost6
section
namespace Go.Proofs.Ytgkjdpdmmlalcaa.F
open Go.RowKit Go.Shelf Go.Proofs.YtgkjdpdmmlalcaaW.PrintWords Go.Proofs.YtgkjdpdmmlalcaaW.PrintLast Go.Proofs.YtgkjdpdmmlalcaaW.PrintMore
set_option linter.unusedVariables false
set_option linter.unusedSimpArgs false
def clearS (m : List SC) (a n : Int) : List SC := (m.map (clrC a n)).filter (fun x => !(x.f1 == 0))
theorem clrW_spec {y w : Nat} (hy : y + 8 ≤ 18446744073709551616) (hw : w < 256 ^ 8) (a n : Nat) : ∀ j, j ≤ 8 → ∃ q : Nat, q < 256 ^ 8 ∧ clrW (a : Int) (n : Int) (y : Int) (w : Int) j = (q : Int) ∧ ∀ k, k < 8 → byteAt q k = if k < j ∧ a ≤ y + k ∧ y + k - a < n then 0 else byteAt w k
  | 0, _ => ⟨w, hw, rfl, fun k _ => by rw [if_neg (by omega)]⟩
  | j + 1, hj => by
    obtain ⟨q, hq, e, hb⟩ := clrW_spec hy hw a n j (by omega)
    rw [clrW_succ, e]
    unfold clrStep
    have ea : IntKind.u64.wrap ((y : Int) + (j : Int)) = ((y + j : Nat) : Int) := by rw [u64w]; omega
    rw [ea, withB_eq (by omega) (by omega) (by omega)]
    by_cases hin : (a : Int) ≤ ((y + j : Nat) : Int) ∧ ((y + j : Nat) : Int) - (a : Int) < (n : Int)
    · have hp : 256 ^ 1 * 256 ^ j ≤ (18446744073709551616 : Nat) := by rw [← Nat.pow_add]; exact p256_le (by omega)
      have em : IntKind.u64.wrap (255 * 2 ^ (8 * j)) = (((256 ^ 1 - 1) * 256 ^ j : Nat) : Int) := by
        rw [u64w, show (255 : Int) * 2 ^ (8 * j) = (((256 ^ 1 - 1) * 256 ^ j : Nat) : Int) by rw [← p256 j]; simp]
        have := pos256 j
        omega
      rw [decide_eq_true hin, if_pos rfl, em, clr64 hq (by omega)]
      refine ⟨_, putIn_lt hq (by omega), rfl, fun k hk => ?_⟩
      rw [byteAt_putIn]
      by_cases h1 : k < j
      · rw [if_pos h1, hb k hk]
        by_cases h2 : a ≤ y + k ∧ y + k - a < n
        · rw [if_pos ⟨h1, h2⟩, if_pos ⟨by omega, h2⟩]
        rw [if_neg (by omega), if_neg (by omega)]
      rw [if_neg h1]
      by_cases h3 : k < j + 1
      · have hkj : k = j := by omega
        rw [if_pos h3, if_pos (by omega)]
        unfold byteAt
        simp
      rw [if_neg h3, if_neg (by omega), hb k hk, if_neg (by omega)]
    rw [decide_eq_false hin, if_neg (by decide)]
    refine ⟨q, hq, rfl, fun k hk => ?_⟩
    rw [hb k hk]
    by_cases h1 : k < j ∧ a ≤ y + k ∧ y + k - a < n
    · rw [if_pos h1, if_pos (by omega)]
    rw [if_neg h1]
    by_cases hkj : k = j
    · rw [if_neg (by omega)]
    rw [if_neg (by omega)]
theorem clrC_key (a n : Int) (x : SC) : clK (clrC a n x) = clK x := rfl
theorem clear_rises {m : List SC} (hr : Rises clK m) (a n : Int) : Rises clK (clearS m a n) := rises_filter clK _ (rises_map clK _ (clrC_key a n) hr)
theorem CellsH.clear {m : List SC} (h : CellsH m) (a n : Nat) : CellsH (clearS m (a : Int) (n : Int)) := by
  refine ⟨clear_rises h.mr _ _, fun x hx => ?_⟩
  obtain ⟨h1, h2⟩ := List.mem_filter.1 hx
  obtain ⟨y, hy, rfl⟩ := List.mem_map.1 h1
  have h3 := h.mp y hy
  obtain ⟨Y, hY⟩ : ∃ Y : Nat, y.f0 = (Y : Int) := ⟨y.f0.toNat, by omega⟩
  obtain ⟨W, hW⟩ : ∃ W : Nat, y.f1 = (W : Int) := ⟨y.f1.toNat, by omega⟩
  obtain ⟨q, hq, e, _⟩ := clrW_spec (y := Y) (w := W) (by omega) (by rw [p256_8]; omega) a n 8 (Nat.le_refl _)
  have e2 : (clrC (a : Int) (n : Int) y).f1 = (q : Int) := by
    show clrW _ _ y.f0 y.f1 8 = _
    rw [hY, hW]
    exact e
  rw [p256_8] at hq
  rw [e2] at h2 ⊢
  refine ⟨h3.1, h3.2.1, h3.2.2.1, ?_, by omega⟩
  have : ¬ (q : Int) = 0 := by simpa using h2
  omega
theorem FitH.clear {l : List SM} {m : List SC} (h : FitH l m) {a n : Int} (a0 : 0 ≤ a) (n0 : 0 ≤ n) : FitH l (clearS m a n) := by
  obtain ⟨A, rfl⟩ : ∃ N : Nat, a = (N : Int) := ⟨a.toNat, by omega⟩
  obtain ⟨M, rfl⟩ : ∃ N : Nat, n = (N : Int) := ⟨n.toNat, by omega⟩
  have hc := h.cells.clear A M
  refine ⟨h.lr, h.ln, h.lp, hc.mr, ?_, fun x hx => ?_⟩
  · have h1 : (clearS m (A : Int) (M : Int)).length ≤ m.length := by
      unfold clearS
      refine Nat.le_trans (List.length_filter_le _ _) ?_
      rw [List.length_map]
      exact Nat.le_refl _
    exact Nat.le_trans h1 h.mn
  · have h1 := hc.mp x hx
    refine ⟨h1.1, h1.2.1, h1.2.2.1, h1.2.2.2.1, h1.2.2.2.2, ?_⟩
    obtain ⟨h2, _⟩ := List.mem_filter.1 hx
    obtain ⟨y, hy, rfl⟩ := List.mem_map.1 h2
    exact (h.mp y hy).2.2.2.2.2
end Go.Proofs.Ytgkjdpdmmlalcaa.F
end
section
namespace Go.Proofs.Ytgkjdpdmmlalcaa.F
open Go.RowKit Go.Shelf Go.Proofs.YtgkjdpdmmlalcaaW.PrintWords Go.Proofs.YtgkjdpdmmlalcaaW.PrintLast Go.Proofs.YtgkjdpdmmlalcaaW.PrintMore
set_option linter.unusedVariables false
set_option linter.unusedSimpArgs false
theorem ref_Fit_spec (l : List SM) (m : List SC) (h : l.length ≤ 1000000 ∧ m.length ≤ 1000000) : ferryref03_Fit.f l m = some (fitR l m) := by
  unfold ferryref03_Fit.f
  rw [if_pos h]
theorem askS_all {l : List SM} {a need : Int} (a0 : 0 ≤ a) : ∀ {r : Nat} {i : Int}, 0 ≤ i → (∀ j : Int, i ≤ j → j < i + r → a + j < 18446744073709551616 ∧ faultS l (a + j) need = 0) → askS l a need r i = (0, 0)
  | 0, i, _, _ => rfl
  | r + 1, i, i0, h => by
    obtain ⟨h1, h2⟩ := h i (Int.le_refl _) (by omega)
    have e : (a + i) % 18446744073709551616 = a + i := by omega
    unfold askS
    rw [e, if_neg (by omega), if_pos h2]
    exact askS_all a0 (by omega) (fun j h3 h4 => h j (by omega) (by omega))
theorem byteAt_leN : ∀ (n : Nat) (f : Nat → Nat), (∀ i, i < n → f i < 256) → ∀ k, k < n → byteAt (leN n f) k = f k
  | 0, _, _, k, hk => by omega
  | n + 1, f, h, k, hk => by
    unfold leN
    have h0 := h 0 (by omega)
    have e : f 0 + 256 * leN n (fun i => f (i + 1)) = f 0 + 256 ^ 1 * leN n (fun i => f (i + 1)) := by rw [Nat.pow_one]
    rw [e, byteAt_join (by omega)]
    by_cases hk0 : k < 1
    · rw [if_pos hk0]
      obtain rfl : k = 0 := by omega
      unfold byteAt
      rw [Nat.pow_zero, Nat.div_one, Nat.mod_eq_of_lt h0]
    rw [if_neg hk0, byteAt_leN n _ (fun i hi => h (i + 1) (by omega)) (k - 1) (by omega)]
    congr 1
    omega
end Go.Proofs.Ytgkjdpdmmlalcaa.F
end
section
namespace Go.Proofs.Ytgkjdpdmmlalcaa.F
open Go.RowKit Go.Proofs.YtgkjdpdmmlalcaaW.PrintWords Go.Proofs.YtgkjdpdmmlalcaaW.PrintLast Go.Proofs.YtgkjdpdmmlalcaaW.PrintMore
attribute [local go_sem] max2_int min2_int max_two min_two max_three min_three max_four min_four
set_option linter.unusedVariables false
set_option linter.unusedSimpArgs false

def guest_Place.f (l0_0 : List (S83)) (l0_1 : List (S88)) (a0_2 : Int) (l0_3 : List (S41)) (a1 : Int) : Option (Int) := some (IntKind.u64.wrap (a0_2 + (IntKind.u64.wrap (a1))))
set_option maxHeartbeats 8000000 in
set_option maxRecDepth 100000 in
theorem guest_Place.calls (A0_0 : Option Addr) (c0_0 : Nat) (l0_0 : List (S83)) (A0_1 : Option Addr) (c0_1 : Nat) (l0_1 : List (S88)) (a0_2 : Int) (A0_3 : Option Addr) (c0_3 : Nat) (l0_3 : List (S41)) (a1 : Int) (r : Int) (w : World) (hr0_0 : Kd.C k83 w A0_0 l0_0.length l0_0) (hc0_0 : l0_0.length ≤ c0_0) (hr0_1 : Kd.C k88 w A0_1 l0_1.length l0_1) (hc0_1 : l0_1.length ≤ c0_1) (hr0_3 : Kd.C k41 w A0_3 l0_3.length l0_3) (hc0_3 : l0_3.length ≤ c0_3) (h : guest_Place.f l0_0 l0_1 a0_2 l0_3 a1 = some r) :
    Calls Try.prog 75 #[.agg #[.slice A0_0 l0_0.length c0_0, .slice A0_1 l0_1.length c0_1, .int .u64 a0_2, .slice A0_3 l0_3.length c0_3], .int .u32 a1] w fun e w' => e = .returned (.int .u64 r) ∧ Below w.heap.size w w' := by
  have hu29 := Try.underlying29
  have HR0_0 := Aside0.mk hr0_0
  have HC0_0 := Aside0.mk hc0_0
  clear hr0_0 hc0_0
  have HR0_1 := Aside0.mk hr0_1
  have HC0_1 := Aside0.mk hc0_1
  clear hr0_1 hc0_1
  have HR0_3 := Aside0.mk hr0_3
  have HC0_3 := Aside0.mk hc0_3
  clear hr0_3 hc0_3
  have HB := Aside0.mk (Below.refl w.heap.size w)
  have H : (some (IntKind.u64.wrap (a0_2 + (IntKind.u64.wrap (a1))))) = some r := h
  clear h
  obtain rfl := Option.some.inj H
  go_enter Try.func75, Try.ntmps75
  go_wp2_with (first | ((with_reducible refine gate_dst (N := 2) rfl ?_); refine bE_ 2 #[.slice A0_0 l0_0.length c0_0, .slice A0_1 l0_1.length c0_1, .int .u64 a0_2, .slice A0_3 l0_3.length c0_3] 29 ?_; intro gb128 hg w3 hbox hb; have BK128 := Aside0.mk hbox; have GW128 := geT_ w.heap.size hg; have GE128 := geT_ w.heap.size hg; replace HB := hB_ hb; clear hb hbox hg; obtain ⟨hcz4_0, hcz4_1, hcz4_2, hcz4_3, hfz4_0, hfz4_1, hfz4_2, hfz4_3⟩ := b4_ BK128.out))
  go_ret
  exact ⟨r3_, beT_⟩

end Go.Proofs.Ytgkjdpdmmlalcaa.F
end
section
namespace Go.Proofs.Ytgkjdpdmmlalcaa.F
open Go.RowKit Go.Proofs.YtgkjdpdmmlalcaaW.PrintWords Go.Proofs.YtgkjdpdmmlalcaaW.PrintLast Go.Proofs.YtgkjdpdmmlalcaaW.PrintMore
attribute [local go_sem] max2_int min2_int max_two min_two max_three min_three max_four min_four
attribute [local go_sem] u32w
set_option linter.unusedVariables false
set_option linter.unusedSimpArgs false

def guest_used.T3 : Bool × List (List Nat × List Nat) := (true, [([], []), ([], []), ([1], [1]), ([2], [2]), ([0, 3], [0, 3]), ([4], [4]), ([5], [5]), ([5], [5]), ([7, 5], [5, 7]), ([5], [5]), ([8, 9, 5], [5, 8, 9]), ([10, 5], [5, 10]), ([11, 5], [5, 11]), ([6, 12, 5, 5], [5, 6, 12]), ([5], [5]), ([13, 14, 5], [5, 13, 14]), ([5, 15], [5, 15]), ([16, 13, 0, 1, 2, 3, 4, 5, 6, 7, 8, 9, 10, 11, 12, 13, 14, 15, 16], [16])])
def guest_used.B3 : List Nat := [0, 0, 2, 6, 15, 31, 63, 63, 191, 63, 959, 1983, 4031, 8191, 63, 32767, 65535, 131071]
theorem guest_used.tab3 : rtab .any (opsOf Try.f95 3) = guest_used.T3 := by kernel_rfl
theorem guest_used.bits3 : waitsOk guest_used.T3.2 guest_used.B3 = true := by kernel_rfl
end Go.Proofs.Ytgkjdpdmmlalcaa.F
end
section
namespace Go.Proofs.Ytgkjdpdmmlalcaa.F
open Go.RowKit Go.Proofs.YtgkjdpdmmlalcaaW.PrintWords Go.Proofs.YtgkjdpdmmlalcaaW.PrintLast Go.Proofs.YtgkjdpdmmlalcaaW.PrintMore
attribute [local go_sem] max2_int min2_int max_two min_two max_three min_three max_four min_four
set_option linter.unusedVariables false
set_option linter.unusedSimpArgs false

def guest_Prot.f (l0_0 : List (S83)) (l0_1 : List (S88)) (a0_2 : Int) (l0_3 : List (S41)) (a1 : Int) : Option (Int) := (guest_at.f l0_3 a1).bind fun bt535 => (if bt535.2 = true then (if 0 ≤ bt535.1 then (if bt535.1 < (l0_3.length : Int) then (some ((rd_T41 l0_3 bt535.1).f1)) else (none)) else (none)) else (some (-1)))
set_option maxHeartbeats 8000000 in
set_option maxRecDepth 100000 in
theorem guest_Prot.calls (A0_0 : Option Addr) (c0_0 : Nat) (l0_0 : List (S83)) (A0_1 : Option Addr) (c0_1 : Nat) (l0_1 : List (S88)) (a0_2 : Int) (A0_3 : Option Addr) (c0_3 : Nat) (l0_3 : List (S41)) (a1 : Int) (r : Int) (w : World) (hr0_0 : Kd.C k83 w A0_0 l0_0.length l0_0) (hc0_0 : l0_0.length ≤ c0_0) (hr0_1 : Kd.C k88 w A0_1 l0_1.length l0_1) (hc0_1 : l0_1.length ≤ c0_1) (hr0_3 : Kd.C k41 w A0_3 l0_3.length l0_3) (hc0_3 : l0_3.length ≤ c0_3) (h : guest_Prot.f l0_0 l0_1 a0_2 l0_3 a1 = some r) :
    Calls Try.prog 86 #[.agg #[.slice A0_0 l0_0.length c0_0, .slice A0_1 l0_1.length c0_1, .int .u64 a0_2, .slice A0_3 l0_3.length c0_3], .int .u32 a1] w fun e w' => e = .returned (.int .i64 r) ∧ Below w.heap.size w w' := by
  have hu29 := Try.underlying29
  have HR0_0 := Aside0.mk hr0_0
  have HC0_0 := Aside0.mk hc0_0
  clear hr0_0 hc0_0
  have HR0_1 := Aside0.mk hr0_1
  have HC0_1 := Aside0.mk hc0_1
  clear hr0_1 hc0_1
  have HR0_3 := Aside0.mk hr0_3
  have HC0_3 := Aside0.mk hc0_3
  clear hr0_3 hc0_3
  have HB := Aside0.mk (Below.refl w.heap.size w)
  have H : ((guest_at.f l0_3 a1).bind fun bt535 => (if bt535.2 = true then (if 0 ≤ bt535.1 then (if bt535.1 < (l0_3.length : Int) then (some ((rd_T41 l0_3 bt535.1).f1)) else (none)) else (none)) else (some (-1)))) = some r := h
  clear h
  replace H := Option.bind_eq_some_iff.mp H
  obtain ⟨⟨t535, t536⟩, A30, H⟩ := H
  have A3 := Aside0.mk A30
  clear A30
  by_cases c4 : t536 = true
  · subst c4
    replace H := hP_ H
    by_cases c5 : 0 ≤ t535
    · rw [if_pos c5] at H
      have c5b0 : decide (0 ≤ t535) = true := decide_eq_true c5
      clear c5
      by_cases c6 : t535 < (l0_3.length : Int)
      · rw [if_pos c6] at H
        have c6b0 : decide (t535 < (l0_3.length : Int)) = true := decide_eq_true c6
        clear c6
        obtain rfl := Option.some.inj H
        go_enter Try.func86, Try.ntmps86
        go_wp2_with (first | ((with_reducible refine gate_dst (N := 2) rfl ?_); refine bE_ 2 #[.slice A0_0 l0_0.length c0_0, .slice A0_1 l0_1.length c0_1, .int .u64 a0_2, .slice A0_3 l0_3.length c0_3] 29 ?_; intro gb534 hg w7 hbox hb; have BK534 := Aside0.mk hbox; have GW534 := geT_ w.heap.size hg; have GE534 := geT_ w.heap.size hg; replace HB := hB_ hb; clear hb hbox hg; obtain ⟨hcz8_0, hcz8_1, hcz8_2, hcz8_3, hfz8_0, hfz8_1, hfz8_2, hfz8_3⟩ := b4_ BK534.out) | ((with_reducible refine gate_callee (f := 97) rfl ?_); refine gL_ (some 11) Try.func97 #[.slice A0_3 l0_3.length c0_3, .int .u32 a1] ?_; (with_reducible refine (guest_at.calls _ _ l0_3 a1 t535 true _ ?side1 ?side2 A3.out).mono ?_); (case side1 => exact cT_ (Kd.C_below HR0_3.out HB.out)); (case side2 => exact HC0_3.out); rintro e w9 ⟨rfl, hb⟩; refine ⟨_, rfl, ?_⟩; replace BK534 := kB_ BK534 hb; replace HB := hB_ hb; (try clear hb); (try clear hb2); (try clear hk); (try clear hi); obtain ⟨hcz10_0, hcz10_1, hcz10_2, hcz10_3, hfz10_0, hfz10_1, hfz10_2, hfz10_3⟩ := b4_ BK534.out; have p537 : 0 ≤ (t535 : Int) := dT_; have q537 : t535 < (l0_3.length : Int) := dT_; obtain ⟨ad537, e537, hx537_0, hx537_1⟩ := at_T41 HR0_3.out t535 p537 q537; cases e537; replace hx537_0 := hX_ hx537_0; replace hx537_1 := hX_ hx537_1; replace p537 := eq_true p537; replace q537 := eq_true q537))
        go_ret
        exact ⟨r3_, beT_⟩
      rw [if_neg c6] at H
      exact absurd H (by simp)
    rw [if_neg c5] at H
    exact absurd H (by simp)
  replace c4 := Bool.eq_false_iff.mpr c4
  subst c4
  replace H := hN_ H
  obtain rfl := Option.some.inj H
  go_enter Try.func86, Try.ntmps86
  go_wp2_with (first | ((with_reducible refine gate_dst (N := 2) rfl ?_); refine bE_ 2 #[.slice A0_0 l0_0.length c0_0, .slice A0_1 l0_1.length c0_1, .int .u64 a0_2, .slice A0_3 l0_3.length c0_3] 29 ?_; intro gb534 hg w11 hbox hb; have BK534 := Aside0.mk hbox; have GW534 := geT_ w.heap.size hg; have GE534 := geT_ w.heap.size hg; replace HB := hB_ hb; clear hb hbox hg; obtain ⟨hcz12_0, hcz12_1, hcz12_2, hcz12_3, hfz12_0, hfz12_1, hfz12_2, hfz12_3⟩ := b4_ BK534.out) | ((with_reducible refine gate_callee (f := 97) rfl ?_); refine gL_ (some 11) Try.func97 #[.slice A0_3 l0_3.length c0_3, .int .u32 a1] ?_; (with_reducible refine (guest_at.calls _ _ l0_3 a1 t535 false _ ?side1 ?side2 A3.out).mono ?_); (case side1 => exact cT_ (Kd.C_below HR0_3.out HB.out)); (case side2 => exact HC0_3.out); rintro e w13 ⟨rfl, hb⟩; refine ⟨_, rfl, ?_⟩; replace BK534 := kB_ BK534 hb; replace HB := hB_ hb; (try clear hb); (try clear hb2); (try clear hk); (try clear hi)))
  go_ret
  exact ⟨r3_, beT_⟩

end Go.Proofs.Ytgkjdpdmmlalcaa.F
end
section
namespace Go.Proofs.Ytgkjdpdmmlalcaa.F
open Go.RowKit Go.Shelf Go.Proofs.YtgkjdpdmmlalcaaW.PrintWords Go.Proofs.YtgkjdpdmmlalcaaW.PrintLast Go.Proofs.YtgkjdpdmmlalcaaW.PrintMore
set_option linter.unusedVariables false
set_option linter.unusedSimpArgs false
abbrev SP := S41
abbrev kP := k41
theorem pg_getR {l : List SP} {k : Nat} (h : k < l.length) : rd_T41 l (k : Int) = l[k] := by
  unfold rd_T41
  simp [h]
def hoS (b n : Int) : Int := IntKind.u64.wrap (Int.tdiv (IntKind.u64.wrap (b + (IntKind.u64.wrap ((n * 4096) % 4294967296)))) 16384)
def mappedS (l : List SM) (a : Int) : Int := if has mpK a l = true then prt l a else -1
def reachS (b a : Int) : Bool := decide (IntKind.u64.wrap (a - b) < 4294967296) && decide (a ≥ b)
def usedS (p : List SP) (b a : Int) : Bool :=
  match p[lowB pgK ((IntKind.u64.wrap (Int.tdiv (IntKind.u64.wrap ((IntKind.u64.wrap (a * 16384)) - b)) 4096)) % 4294967296) p]? with
  | none => false
  | some x => hoS b x.f0 == a
def protP (p : List SP) (n : Int) : Int := if has pgK n p = true then look pgK (fun x => x.f1) n p else -1
def lostB (l : List SM) (b : Int) (x : SP) : Bool := mappedS l (hoS b x.f0) != 3
def idleB (p : List SP) (b : Int) (x : SM) : Bool := reachS b (IntKind.u64.wrap (x.f0 * 16384)) && !usedS p b x.f0
def strayB (p : List SP) (b : Int) (x : SC) : Bool := reachS b x.f0 && decide (protP p ((IntKind.u64.wrap (Int.tdiv (IntKind.u64.wrap (x.f0 - b)) 4096)) % 4294967296) < 0)
theorem at_f {p : List SP} (hp : p.length ≤ 1000000) (hr : Rises pgK p) (n : Int) : guest_at.f p n = some (((lowB pgK n p : Nat) : Int), has pgK n p) := by
  unfold guest_at.f
  rw [if_pos ⟨hp, (risesB_iff p).2 hr⟩]
theorem prot_f (l : List SM) (m : List SC) (b : Int) {p : List SP} (hp : p.length ≤ 1000000) (hr : Rises pgK p) (n : Int) : guest_Prot.f l m b p n = some (protP p n) := by
  unfold guest_Prot.f protP
  rw [at_f hp hr, Option.bind_some]
  dsimp only
  cases hh : has pgK n p with
  | false => rw [if_neg (by decide), if_neg (by decide)]
  | true =>
    obtain ⟨hj, h3, h4⟩ := low_hit (val := fun x : SP => x.f1) hr hh
    rw [if_pos rfl, if_pos (by omega), if_pos (by omega), pg_getR hj, if_pos rfl]
    exact congrArg some h4
end Go.Proofs.Ytgkjdpdmmlalcaa.F
end
section
namespace Go.Proofs.Ytgkjdpdmmlalcaa.F
open Go.RowKit Go.Shelf Go.Proofs.YtgkjdpdmmlalcaaW.PrintWords Go.Proofs.YtgkjdpdmmlalcaaW.PrintLast Go.Proofs.YtgkjdpdmmlalcaaW.PrintMore
set_option linter.unusedVariables false
abbrev kM := k83
abbrev kC := k88
theorem kM_heap : Kd.Heap kM := Kd.heap_iso _ (Kd.heap_pair (Kd.heap_int .u64) (Kd.heap_int .i64))
theorem kC_heap : Kd.Heap kC := Kd.heap_iso _ (Kd.heap_pair (Kd.heap_int .u64) (Kd.heap_int .u64))
def HostV (W : World) (v0 v1 : Value) (l : List SM) (m : List SC) : Prop := SlV kM W v0 l ∧ SlV kC W v1 m
theorem HostV.below {W W' : World} {v0 v1 : Value} {l : List SM} {m : List SC} (h : HostV W v0 v1 l m) (hb : Below W.heap.size W W') : HostV W' v0 v1 l m := ⟨h.1.below hb, h.2.below hb⟩
theorem HostV.len {W : World} {v0 v1 : Value} {l : List SM} {m : List SC} (h : HostV W v0 v1 l m) : l.length ≤ 9223372036854775807 ∧ m.length ≤ 9223372036854775807 := by
  obtain ⟨⟨A, c, rfl, hc, hC⟩, ⟨A', c', rfl, hc', hC'⟩⟩ := h
  exact ⟨Kd.C_max hC, Kd.C_max hC'⟩
def RetH (W : World) (l : List SM) (m : List SC) (f : Value → Value) : Ending → World → Prop := fun e w' => ∃ A c A' c', e = .returned (f (.agg #[.slice A l.length c, .slice A' m.length c'])) ∧ HostV w' (.slice A l.length c) (.slice A' m.length c') l m ∧ Below W.heap.size W w'
theorem RetH.of {W w' : World} {l : List SM} {m : List SC} {f : Value → Value} {v0 v1 : Value} {B B' e1 e2 : Nat} {ok ok' : Nat → Prop} {e : Ending} (he : e = .returned (f (.agg #[v0, v1]))) (h0 : Kd.V kM e1 w' B ok v0 l) (h1 : Kd.V kC e2 w' B' ok' v1 m) (hb : Below W.heap.size W w') : RetH W l m f e w' := by
  obtain ⟨A, c, rfl, hc, hC⟩ := SlV.of_view h0
  obtain ⟨A', c', rfl, hc', hC'⟩ := SlV.of_view h1
  exact ⟨A, c, A', c', he, ⟨SlV.mk hC hc, SlV.mk hC' hc'⟩, hb⟩
section
variable {W : World} {v0 v1 : Value} {l : List SM} {m : List SC} {u0 u1 : Value} {l' : List SM} {m' : List SC}
end
theorem blk_new1 (w : World) (o o' : Obj) : ((w.alloc o).alloc o').heap[w.heap.size + 1]? = some o' := by
  have h := blk_new (w.alloc o) o'
  have e : (w.alloc o).heap.size = w.heap.size + 1 := by
    unfold World.alloc
    exact Array.size_push ..
  rwa [e] at h
def okM (x : SM) : Bool := decide ((0 ≤ x.f0 ∧ x.f0 ≤ 18446744073709551615) ∧ ((-9223372036854775808) ≤ x.f1 ∧ x.f1 ≤ 9223372036854775807))
def okC (x : SC) : Bool := decide ((0 ≤ x.f0 ∧ x.f0 ≤ 18446744073709551615) ∧ (0 ≤ x.f1 ∧ x.f1 ≤ 18446744073709551615))
def okH (l : List SM) (m : List SC) : Bool := l.all okM && m.all okC
theorem okH_wf {l : List SM} {m : List SC} (h : okH l m = true) : (∀ x ∈ l, wfM x) ∧ (∀ x ∈ m, wfC x) := by
  unfold okH at h
  rw [Bool.and_eq_true, List.all_eq_true, List.all_eq_true] at h
  refine ⟨fun x hx => ?_, fun x hx => ?_⟩
  · have := h.1 x hx
    unfold okM at this
    have h9 := of_decide_eq_true this
    exact h9
  · have := h.2 x hx
    unfold okC at this
    have h9 := of_decide_eq_true this
    exact h9
theorem okH_of {l : List SM} {m : List SC} (h : ∀ x ∈ l, wfM x) (h2 : ∀ x ∈ m, wfC x) : okH l m = true := by
  unfold okH
  rw [Bool.and_eq_true, List.all_eq_true, List.all_eq_true]
  refine ⟨fun x hx => ?_, fun x hx => ?_⟩
  · unfold okM
    refine decide_eq_true ?_
    exact h x hx
  · unfold okC
    refine decide_eq_true ?_
    exact h2 x hx
end Go.Proofs.Ytgkjdpdmmlalcaa.F
end
section
namespace Go.Proofs.Ytgkjdpdmmlalcaa.F
open Go.RowKit Go.Shelf Go.Proofs.YtgkjdpdmmlalcaaW.PrintWords Go.Proofs.YtgkjdpdmmlalcaaW.PrintLast Go.Proofs.YtgkjdpdmmlalcaaW.PrintMore
set_option linter.unusedVariables false
set_option linter.unusedSimpArgs false
def badPg (p : List SP) (k : Nat) : Bool :=
  match p[k]? with
  | none => false
  | some x => decide (x.f0 ≥ 1048576) || ((Go.bits .andNot .i64 x.f1 7 != 0) || prevGe pgK p k x.f0)
def fpS (p : List SP) : Bool := !((List.range p.length).any (badPg p))
def gfitB (l : List SM) (m : List SC) (b : Int) (p : List SP) : Bool :=
  fitB l m && (!(Int.tmod b 16384 != 0) && (!decide (b > 4611686018427387904) && (!decide ((p.length : Int) > 256) && (fpS p && (!(p.any (lostB l b)) && (!(l.any (idleB p b)) && !(m.any (strayB p b))))))))
-- HAND fn=ferry/guest.Fit ; rounds=0 ; making=1 ; laid=0
end Go.Proofs.Ytgkjdpdmmlalcaa.F
end
section
namespace Go.Proofs.Ytgkjdpdmmlalcaa.F
open Go.RowKit Go.Shelf Go.Proofs.YtgkjdpdmmlalcaaW.PrintWords Go.Proofs.YtgkjdpdmmlalcaaW.PrintLast Go.Proofs.YtgkjdpdmmlalcaaW.PrintMore
set_option linter.unusedVariables false
set_option linter.unusedSimpArgs false
abbrev wfP := wfS41
def hoN (b n : Int) : Int := b / 16384 + n / 4
def usedN (p : List SP) (b a : Int) : Bool := p.any (fun x => decide (hoN b x.f0 = a))
structure BaseG (b : Int) : Prop where
  b0 : 0 ≤ b
  b1 : b ≤ 4611686018427387904
  b2 : b % 16384 = 0
structure PagesG (p : List SP) : Prop where
  pn : p.length ≤ 256
  pr : Rises pgK p
  pp : ∀ x ∈ p, 0 ≤ x.f0 ∧ x.f0 < 1048576 ∧ 0 ≤ x.f1 ∧ x.f1 ≤ 7
structure FitG (l : List SM) (m : List SC) (b : Int) (p : List SP) : Prop where
  h : FitH l m
  base : BaseG b
  pages : PagesG p
  pm : ∀ x ∈ p, has mpK (hoN b x.f0) l = true
  lm : ∀ y ∈ l, b ≤ y.f0 * 16384 → y.f0 * 16384 - b < 4294967296 → y.f1 = 3 ∧ ∃ x ∈ p, hoN b x.f0 = y.f0
  cm : ∀ c ∈ m, b ≤ c.f0 → c.f0 - b < 4294967296 → ∃ x ∈ p, x.f0 = (c.f0 - b) / 4096
theorem hoN_mem {b n : Int} (hb : BaseG b) (n0 : 0 ≤ n) (n1 : n < 1048576) : b ≤ hoN b n * 16384 ∧ hoN b n * 16384 - b < 4294967296 := by
  have h0 := hb.b0
  have h2 := hb.b2
  unfold hoN
  omega
theorem hoS_eq {b n : Int} (hb : BaseG b) (n0 : 0 ≤ n) (n1 : n < 1048576) : hoS b n = hoN b n := by
  have h0 := hb.b0
  have h1 := hb.b1
  have h2 := hb.b2
  unfold hoS hoN
  rw [u64w (n * 4096 % 4294967296), u64w (b + _), Int.tdiv_eq_ediv_of_nonneg (by omega), u64w]
  omega
theorem reachS_eq {b a : Int} (hb : BaseG b) (a0 : 0 ≤ a) (a1 : a < 18446744073709551616) : reachS b a = decide (b ≤ a ∧ a - b < 4294967296) := by
  have h0 := hb.b0
  have h1 := hb.b1
  unfold reachS
  rw [u64w]
  by_cases h : b ≤ a
  · rw [decide_eq_true (show a ≥ b from h), Bool.and_true]
    by_cases h2 : a - b < 4294967296
    · rw [decide_eq_true (show (a - b) % 18446744073709551616 < 4294967296 by omega), decide_eq_true (show b ≤ a ∧ a - b < 4294967296 from ⟨h, h2⟩)]
    rw [decide_eq_false (show ¬ (a - b) % 18446744073709551616 < 4294967296 by omega), decide_eq_false (show ¬ (b ≤ a ∧ a - b < 4294967296) from fun e => h2 e.2)]
  rw [decide_eq_false (show ¬ a ≥ b from h), Bool.and_false, decide_eq_false (fun e => h e.1)]
theorem usedS_eq {p : List SP} {b : Int} (hb : BaseG b) (hr : Rises pgK p) (pp : ∀ x ∈ p, 0 ≤ x.f0 ∧ x.f0 < 1048576) {a : Int} (a0 : b ≤ a * 16384) (a1 : a * 16384 - b < 4294967296) : usedS p b a = usedN p b a := by
  have h0 := hb.b0
  have h1 := hb.b1
  have h2 := hb.b2
  have e : (IntKind.u64.wrap (Int.tdiv (IntKind.u64.wrap ((IntKind.u64.wrap (a * 16384)) - b)) 4096)) % 4294967296 = 4 * (a - b / 16384) := by
    rw [u64w (a * 16384), u64w (_ - b), Int.tdiv_eq_ediv_of_nonneg (by omega), u64w]
    omega
  unfold usedS
  rw [e]
  generalize hj : 4 * (a - b / 16384) = j
  cases h : p[lowB pgK j p]? with
  | none =>
    have hlen := List.getElem?_eq_none_iff.1 h
    symm
    refine List.any_eq_false.2 (fun x hx => ?_)
    obtain ⟨i, hi, rfl⟩ := List.getElem_of_mem hx
    have h3 := lowB_lt pgK j p i hi (by omega)
    have h4 : pgK p[i] = p[i].f0 := rfl
    have h5 := pp _ hx
    simp only [decide_eq_true_eq]
    unfold hoN
    omega
  | some x =>
    obtain ⟨hlt, hx⟩ := List.getElem?_eq_some_iff.1 h
    have hm : x ∈ p := by rw [← hx]; exact List.getElem_mem hlt
    have hp := pp x hm
    have hge := lowB_ge pgK j hr _ hlt (Nat.le_refl _)
    rw [hx] at hge
    have hk : pgK x = x.f0 := rfl
    dsimp only
    rw [hoS_eq hb hp.1 hp.2]
    by_cases hxa : hoN b x.f0 = a
    · rw [hxa, beq_self_eq_true]
      symm
      exact List.any_eq_true.2 ⟨x, hm, decide_eq_true hxa⟩
    rw [show (hoN b x.f0 == a) = false from beq_eq_false_iff_ne.2 hxa]
    symm
    refine List.any_eq_false.2 (fun y hy => ?_)
    obtain ⟨i, hi, rfl⟩ := List.getElem_of_mem hy
    have h5 := pp _ hy
    have h4 : pgK p[i] = p[i].f0 := rfl
    simp only [decide_eq_true_eq]
    unfold hoN at hxa ⊢
    rcases Nat.lt_or_ge i (lowB pgK j p) with h6 | h6
    · have h3 := lowB_lt pgK j p i hi h6
      omega
    · have h3 : x.f0 ≤ p[i].f0 := by
        rcases Nat.lt_or_eq_of_le h6 with h7 | h7
        · have h8 := rises_get pgK hr _ i hi h7
          rw [hx] at h8
          have h9 : pgK x = x.f0 := rfl
          omega
        · subst h7
          rw [hx]
          exact Int.le_refl _
      omega
theorem protP_neg {p : List SP} (hr : Rises pgK p) (pp : ∀ x ∈ p, 0 ≤ x.f1) (n : Int) : decide (protP p n < 0) = !has pgK n p := by
  unfold protP
  cases hh : has pgK n p with
  | false => rfl
  | true =>
    rw [if_pos rfl]
    obtain ⟨x, hx, e⟩ := has_mem.1 hh
    rw [← e, look_mem pgK (fun x => x.f1) hr hx]
    have := pp x hx
    exact decide_eq_false (by omega)
theorem mappedS_ne {l : List SM} (hr : Rises mpK l) (a : Int) : (mappedS l a != 3) = !(has mpK a l && decide (prt l a = 3)) := by
  unfold mappedS
  cases hh : has mpK a l with
  | false => rfl
  | true =>
    rw [if_pos rfl, Bool.true_and]
    by_cases h : prt l a = 3
    · rw [h]
      rfl
    rw [decide_eq_false h, bne_iff_ne.2 h]
    rfl
theorem fpS_iff {p : List SP} (wp : ∀ x ∈ p, wfP x) : fpS p = true ↔ Rises pgK p ∧ ∀ x ∈ p, 0 ≤ x.f0 ∧ x.f0 < 1048576 ∧ 0 ≤ x.f1 ∧ x.f1 ≤ 7 := by
  have hb : ∀ (k : Nat) (hk : k < p.length), badPg p k = false ↔ (p[k].f0 < 1048576 ∧ 0 ≤ p[k].f1 ∧ p[k].f1 ≤ 7) ∧ prevGe pgK p k (pgK p[k]) = false := fun k hk => by
    have hw : (0 ≤ p[k].f0 ∧ p[k].f0 ≤ 4294967295) ∧ (-9223372036854775808 ≤ p[k].f1 ∧ p[k].f1 ≤ 9223372036854775807) := wp _ (List.getElem_mem hk)
    unfold badPg
    rw [List.getElem?_eq_getElem hk]
    dsimp only
    rw [badProt_iff hw.2.1 hw.2.2, Bool.or_eq_false_iff, Bool.or_eq_false_iff, decide_eq_false_iff_not, Bool.not_eq_false', decide_eq_true_eq]
    exact ⟨fun h => ⟨⟨by omega, h.2.1⟩, h.2.2⟩, fun h => ⟨by omega, h.1.2, h.2⟩⟩
  unfold fpS
  rw [not_any_range, rises_prev]
  refine ⟨fun h => ⟨fun i hi => ((hb i hi).1 (h i hi)).2, fun x hx => ?_⟩, fun h i hi => (hb i hi).2 ⟨(h.2 _ (List.getElem_mem hi)).2, h.1 i hi⟩⟩
  obtain ⟨i, hi, rfl⟩ := List.getElem_of_mem hx
  have hw : (0 ≤ p[i].f0 ∧ p[i].f0 ≤ 4294967295) ∧ _ := wp _ hx
  exact ⟨hw.1.1, ((hb i hi).1 (h i hi)).1⟩
theorem usedN_iff {p : List SP} {b a : Int} : usedN p b a = true ↔ ∃ x ∈ p, hoN b x.f0 = a := by
  unfold usedN
  rw [List.any_eq_true]
  exact ⟨fun ⟨x, hx, h⟩ => ⟨x, hx, of_decide_eq_true h⟩, fun ⟨x, hx, h⟩ => ⟨x, hx, decide_eq_true h⟩⟩
theorem FitG.prt {l : List SM} {m : List SC} {b : Int} {p : List SP} (h : FitG l m b p) {x : SP} (hx : x ∈ p) : prt l (hoN b x.f0) = 3 := by
  obtain ⟨y, hy, e⟩ := has_mem.1 (h.pm x hx)
  have hk : mpK y = y.f0 := rfl
  have hp := h.pages.pp x hx
  have hm := hoN_mem h.base hp.1 hp.2.1
  rw [← e] at hm ⊢
  unfold F.prt
  rw [look_mem mpK mpV h.h.lr hy]
  exact (h.lm y hy hm.1 hm.2).1
theorem gfitB_iff {l : List SM} {m : List SC} {b : Int} {p : List SP} (wl : ∀ x ∈ l, wfM x) (wm : ∀ x ∈ m, wfC x) (b0 : 0 ≤ b) (b1 : b ≤ 18446744073709551615) (wp : ∀ x ∈ p, wfP x) : gfitB l m b p = true ↔ FitG l m b p := by
  unfold gfitB
  simp only [Bool.and_eq_true, Bool.not_eq_true', decide_eq_false_iff_not, fitB_iff wl wm, fpS_iff wp, bne_eq_false_iff_eq, List.any_eq_false]
  rw [Int.tmod_eq_emod_of_nonneg b0]
  constructor
  · rintro ⟨hH, h1, h2, h3, ⟨h4, h5⟩, h6, h7, h8⟩
    have hb : BaseG b := ⟨b0, by omega, h1⟩
    have hL : ∀ y ∈ l, b ≤ y.f0 * 16384 → y.f0 * 16384 - b < 4294967296 → ∃ x ∈ p, hoN b x.f0 = y.f0 := fun y hy ha hc => by
      have hp := hH.lp y hy
      have h9 := h7 y hy
      unfold idleB at h9
      rw [u64w, show y.f0 * 16384 % 18446744073709551616 = y.f0 * 16384 by omega, reachS_eq hb (by omega) (by omega), decide_eq_true ⟨ha, hc⟩, usedS_eq hb h4 (fun x hx => ⟨(h5 x hx).1, (h5 x hx).2.1⟩) ha hc] at h9
      exact usedN_iff.1 (by simpa using h9)
    have hP : ∀ x ∈ p, has mpK (hoN b x.f0) l = true ∧ F.prt l (hoN b x.f0) = 3 := fun x hx => by
      have h9 := h6 x hx
      have hp := h5 x hx
      unfold lostB at h9
      rw [hoS_eq hb hp.1 hp.2.1, mappedS_ne hH.lr] at h9
      simpa using h9
    refine ⟨hH, hb, ⟨by omega, h4, h5⟩, fun x hx => (hP x hx).1, fun y hy ha hc => ?_, fun c hc ha hd => ?_⟩
    · obtain ⟨x, hx, e⟩ := hL y hy ha hc
      refine ⟨?_, x, hx, e⟩
      have h9 := (hP x hx).2
      rw [e] at h9
      unfold F.prt at h9
      have h10 := look_mem mpK mpV hH.lr hy
      have hk : mpK y = y.f0 := rfl
      rw [hk, h9] at h10
      exact h10.symm
    · have h9 := h8 c hc
      have hq := hH.mp c hc
      unfold strayB at h9
      rw [reachS_eq hb hq.1 hq.2.1, decide_eq_true ⟨ha, hd⟩, protP_neg h4 (fun x hx => (h5 x hx).2.2.1), u64w (c.f0 - b), Int.tdiv_eq_ediv_of_nonneg (by omega), u64w, show (c.f0 - b) % 18446744073709551616 / 4096 % 18446744073709551616 % 4294967296 = (c.f0 - b) / 4096 by omega] at h9
      obtain ⟨x, hx, e⟩ := has_mem.1 (show has pgK ((c.f0 - b) / 4096) p = true by simpa using h9)
      exact ⟨x, hx, e⟩
  · intro h
    have hb := h.base
    have h5 := h.pages.pp
    refine ⟨h.h, hb.b2, by have := hb.b1; omega, by have := h.pages.pn; omega, ⟨h.pages.pr, h5⟩, fun x hx => ?_, fun y hy => ?_, fun c hc => ?_⟩
    · have hp := h5 x hx
      unfold lostB
      rw [hoS_eq hb hp.1 hp.2.1, mappedS_ne h.h.lr, h.pm x hx, h.prt hx]
      simp
    · have hp := h.h.lp y hy
      unfold idleB
      rw [u64w, show y.f0 * 16384 % 18446744073709551616 = y.f0 * 16384 by omega, reachS_eq hb (by omega) (by omega)]
      by_cases ha : b ≤ y.f0 * 16384 ∧ y.f0 * 16384 - b < 4294967296
      · rw [decide_eq_true ha, usedS_eq hb h.pages.pr (fun x hx => ⟨(h5 x hx).1, (h5 x hx).2.1⟩) ha.1 ha.2, usedN_iff.2 (h.lm y hy ha.1 ha.2).2]
        simp
      rw [decide_eq_false ha]
      simp
    · have hq := h.h.mp c hc
      unfold strayB
      rw [reachS_eq hb hq.1 hq.2.1]
      by_cases ha : b ≤ c.f0 ∧ c.f0 - b < 4294967296
      · obtain ⟨x, hx, e⟩ := h.cm c hc ha.1 ha.2
        rw [decide_eq_true ha, protP_neg h.pages.pr (fun x hx => (h5 x hx).2.2.1), u64w (c.f0 - b), Int.tdiv_eq_ediv_of_nonneg (by omega), u64w, show (c.f0 - b) % 18446744073709551616 / 4096 % 18446744073709551616 % 4294967296 = (c.f0 - b) / 4096 by omega, has_mem.2 ⟨x, hx, e⟩]
        simp
      rw [decide_eq_false ha]
      simp
end Go.Proofs.Ytgkjdpdmmlalcaa.F
end
section
namespace Go.Proofs.Ytgkjdpdmmlalcaa.F
open Go.RowKit Go.Proofs.YtgkjdpdmmlalcaaW.PrintWords Go.Proofs.YtgkjdpdmmlalcaaW.PrintLast Go.Proofs.YtgkjdpdmmlalcaaW.PrintMore
attribute [local go_sem] max2_int min2_int max_two min_two max_three min_three max_four min_four
set_option linter.unusedVariables false
set_option linter.unusedSimpArgs false

def ferryref04_Prot.l0 : Nat → Int → Int → List (S83) → List (S88) → Int → List (S41) → Option (Int)
  | 0, _, _, _, _, _, _ => none
  | k + 1, x1, x5, x102000, x102001, x102002, x102003 => if x5 < (x102003.length : Int) then (if 0 ≤ x5 then (if ((rd_T41 x102003 x5).f0) = x1 then (some ((rd_T41 x102003 x5).f1)) else (ferryref04_Prot.l0 k x1 (wrap64 (x5 + 1)) x102000 x102001 x102002 x102003)) else (none)) else (some (-1))
def ferryref04_Prot.f (k : Nat) (l0_0 : List (S83)) (l0_1 : List (S88)) (a0_2 : Int) (l0_3 : List (S41)) (a1 : Int) : Option (Int) := ferryref04_Prot.l0 k a1 0 l0_0 l0_1 a0_2 l0_3
set_option maxHeartbeats 8000000 in
set_option maxRecDepth 100000 in
theorem ferryref04_Prot.calls (k : Nat) (A0_0 : Option Addr) (c0_0 : Nat) (l0_0 : List (S83)) (A0_1 : Option Addr) (c0_1 : Nat) (l0_1 : List (S88)) (a0_2 : Int) (A0_3 : Option Addr) (c0_3 : Nat) (l0_3 : List (S41)) (a1 : Int) (r : Int) (w : World) (hr0_0 : Kd.C k83 w A0_0 l0_0.length l0_0) (hc0_0 : l0_0.length ≤ c0_0) (hr0_1 : Kd.C k88 w A0_1 l0_1.length l0_1) (hc0_1 : l0_1.length ≤ c0_1) (hr0_3 : Kd.C k41 w A0_3 l0_3.length l0_3) (hc0_3 : l0_3.length ≤ c0_3) (h : ferryref04_Prot.f k l0_0 l0_1 a0_2 l0_3 a1 = some r) :
    Calls Try.prog 30 #[.agg #[.slice A0_0 l0_0.length c0_0, .slice A0_1 l0_1.length c0_1, .int .u64 a0_2, .slice A0_3 l0_3.length c0_3], .int .u32 a1] w fun e w' => e = .returned (.int .i64 r) ∧ Below w.heap.size w w' := by
  have hu29 := Try.underlying29
  have HR0_0 := Aside0.mk hr0_0
  have HC0_0 := Aside0.mk hc0_0
  clear hr0_0 hc0_0
  have HR0_1 := Aside0.mk hr0_1
  have HC0_1 := Aside0.mk hc0_1
  clear hr0_1 hc0_1
  have HR0_3 := Aside0.mk hr0_3
  have HC0_3 := Aside0.mk hc0_3
  clear hr0_3 hc0_3
  have HB := Aside0.mk (Below.refl w.heap.size w)
  have H : (ferryref04_Prot.l0 k a1 0 l0_0 l0_1 a0_2 l0_3) = some r := h
  clear h
  have H' := Aside0.mk H
  clear H
  go_enter Try.func30, Try.ntmps30
  go_wp2_with (first | ((with_reducible refine gate_dst (N := 2) rfl ?_); refine bE_ 2 #[.slice A0_0 l0_0.length c0_0, .slice A0_1 l0_1.length c0_1, .int .u64 a0_2, .slice A0_3 l0_3.length c0_3] 29 ?_; intro gb101 hg w3 hbox hb; have BK101 := Aside0.mk hbox; have GW101 := geT_ w.heap.size hg; have GE101 := geT_ w.heap.size hg; replace HB := hB_ hb; clear hb hbox hg))
  go_loopg [5] k (fun kq v5 w' => ∃ (x5_1 : Int), v5 = .int .i64 x5_1 ∧ Aside0 (ferryref04_Prot.l0 kq a1 x5_1 l0_0 l0_1 a0_2 l0_3 = some r) ∧ Aside0 (kq ≤ k) ∧ Aside0 (w'.heap[gb101]? = some (.cells #[(.slice A0_0 l0_0.length c0_0), (.slice A0_1 l0_1.length c0_1), .int .u64 a0_2, (.slice A0_3 l0_3.length c0_3)] 29 (0, 0))) ∧ Aside0 (Below w.heap.size w w'))
  case atStart => exact ⟨(0), r1_, H', ⟨Nat.le_refl _⟩, ⟨bT_ BK101.out⟩, ⟨beT_⟩⟩
  case round =>
    clear H'
    try clear p2
    try clear c3
    obtain ⟨x5_1, rfl, HA, HK1, BK101, HB⟩ := hrel
    cases gk with
    | zero => exact absurd HA.out (by simp [ferryref04_Prot.l0])
    | succ k1 =>
      have H := HA.out
      clear HA
      simp only [ferryref04_Prot.l0] at H
      by_cases c4 : x5_1 < (l0_3.length : Int)
      · rw [if_pos c4] at H
        have c4b0 : decide (x5_1 < (l0_3.length : Int)) = true := decide_eq_true c4
        clear c4
        by_cases c5 : 0 ≤ x5_1
        · rw [if_pos c5] at H
          have c5b0 : decide (0 ≤ x5_1) = true := decide_eq_true c5
          clear c5
          by_cases c6 : ((rd_T41 l0_3 x5_1).f0) = a1
          · rw [if_pos c6] at H
            have c6b0 : (((rd_T41 l0_3 x5_1).f0) == a1) = true := beq_iff_eq.mpr c6
            have c6b1 : (((rd_T41 l0_3 x5_1).f0) != a1) = false := bne_eq_false_iff_eq.mpr c6
            clear c6
            obtain rfl := Option.some.inj H
            obtain ⟨hcz7_0, hcz7_1, hcz7_2, hcz7_3, hfz7_0, hfz7_1, hfz7_2, hfz7_3⟩ := b4_ BK101.out
            have p102 : 0 ≤ (x5_1 : Int) := dT_
            have q102 : x5_1 < (l0_3.length : Int) := dT_
            obtain ⟨ad102, e102, hx102_0, hx102_1⟩ := at_T41 HR0_3.out x5_1 p102 q102
            cases e102
            replace hx102_0 := hX_ hx102_0
            replace hx102_1 := hX_ hx102_1
            replace p102 := eq_true p102
            replace q102 := eq_true q102
            have p103 : 0 ≤ (x5_1 : Int) := dT_
            have q103 : x5_1 < (l0_3.length : Int) := dT_
            obtain ⟨ad103, e103, hx103_0, hx103_1⟩ := at_T41 HR0_3.out x5_1 p103 q103
            obtain rfl : ad102 = ad103 := (by injection e103)
            replace hx103_0 := hX_ hx103_0
            replace hx103_1 := hX_ hx103_1
            replace p103 := eq_true p103
            replace q103 := eq_true q103
            go_wp2
            go_ret
            exact ⟨r3_, beT_⟩
          rw [if_neg c6] at H
          have c6b0 : (((rd_T41 l0_3 x5_1).f0) == a1) = false := beq_eq_false_iff_ne.mpr c6
          have c6b1 : (((rd_T41 l0_3 x5_1).f0) != a1) = true := bne_iff_ne.mpr c6
          have H' := Aside0.mk H
          clear H
          obtain ⟨hcz8_0, hcz8_1, hcz8_2, hcz8_3, hfz8_0, hfz8_1, hfz8_2, hfz8_3⟩ := b4_ BK101.out
          have p102 : 0 ≤ (x5_1 : Int) := dT_
          have q102 : x5_1 < (l0_3.length : Int) := dT_
          obtain ⟨ad102, e102, hx102_0, hx102_1⟩ := at_T41 HR0_3.out x5_1 p102 q102
          cases e102
          replace hx102_0 := hX_ hx102_0
          replace hx102_1 := hX_ hx102_1
          replace p102 := eq_true p102
          replace q102 := eq_true q102
          go_wp2
          go_roundg k1
          case measure => have := HK1.out; omega
          case rel => exact ⟨(wrap64 (x5_1 + 1)), r1_, H', ⟨by have := HK1.out; omega⟩, ⟨bT_ BK101.out⟩, ⟨beT_⟩⟩
        rw [if_neg c5] at H
        exact absurd H (by simp)
      rw [if_neg c4] at H
      have c4b0 : decide (x5_1 < (l0_3.length : Int)) = false := decide_eq_false c4
      clear c4
      obtain rfl := Option.some.inj H
      obtain ⟨hcz9_0, hcz9_1, hcz9_2, hcz9_3, hfz9_0, hfz9_1, hfz9_2, hfz9_3⟩ := b4_ BK101.out
      go_wp2
      go_ret
      exact ⟨r3_, beT_⟩

end Go.Proofs.Ytgkjdpdmmlalcaa.F
end
section
namespace Go.Proofs.Ytgkjdpdmmlalcaa.F
open Go.RowKit Go.Proofs.YtgkjdpdmmlalcaaW.PrintWords Go.Proofs.YtgkjdpdmmlalcaaW.PrintLast Go.Proofs.YtgkjdpdmmlalcaaW.PrintMore
attribute [local go_sem] max2_int min2_int max_two min_two max_three min_three max_four min_four
set_option linter.unusedVariables false
set_option linter.unusedSimpArgs false

def ferryref04_own.f (l0_0 : List (S83)) (l0_1 : List (S88)) (a0_2 : Int) (l0_3 : List (S41)) (a1 : Int) : Option (Int × Bool) := if a1 < a0_2 then (some (0, false)) else (if (IntKind.u64.wrap (a1 - a0_2)) ≥ 4294967296 then (some (0, false)) else (some ((IntKind.u64.wrap (Int.tdiv (IntKind.u64.wrap (a1 - a0_2)) 4096)) % 4294967296, true)))
set_option maxHeartbeats 8000000 in
set_option maxRecDepth 100000 in
theorem ferryref04_own.calls (A0_0 : Option Addr) (c0_0 : Nat) (l0_0 : List (S83)) (A0_1 : Option Addr) (c0_1 : Nat) (l0_1 : List (S88)) (a0_2 : Int) (A0_3 : Option Addr) (c0_3 : Nat) (l0_3 : List (S41)) (a1 : Int) (r1 : Int) (r2 : Bool) (w : World) (hr0_0 : Kd.C k83 w A0_0 l0_0.length l0_0) (hc0_0 : l0_0.length ≤ c0_0) (hr0_1 : Kd.C k88 w A0_1 l0_1.length l0_1) (hc0_1 : l0_1.length ≤ c0_1) (hr0_3 : Kd.C k41 w A0_3 l0_3.length l0_3) (hc0_3 : l0_3.length ≤ c0_3) (h : ferryref04_own.f l0_0 l0_1 a0_2 l0_3 a1 = some (r1, r2)) :
    Calls Try.prog 46 #[.agg #[.slice A0_0 l0_0.length c0_0, .slice A0_1 l0_1.length c0_1, .int .u64 a0_2, .slice A0_3 l0_3.length c0_3], .int .u64 a1] w fun e w' => e = .returned (.tuple #[.int .u32 r1, .bool r2]) ∧ Below w.heap.size w w' := by
  have hu29 := Try.underlying29
  have HR0_0 := Aside0.mk hr0_0
  have HC0_0 := Aside0.mk hc0_0
  clear hr0_0 hc0_0
  have HR0_1 := Aside0.mk hr0_1
  have HC0_1 := Aside0.mk hc0_1
  clear hr0_1 hc0_1
  have HR0_3 := Aside0.mk hr0_3
  have HC0_3 := Aside0.mk hc0_3
  clear hr0_3 hc0_3
  have HB := Aside0.mk (Below.refl w.heap.size w)
  have H : (if a1 < a0_2 then (some (0, false)) else (if (IntKind.u64.wrap (a1 - a0_2)) ≥ 4294967296 then (some (0, false)) else (some ((IntKind.u64.wrap (Int.tdiv (IntKind.u64.wrap (a1 - a0_2)) 4096)) % 4294967296, true)))) = some (r1, r2) := h
  clear h
  by_cases c3 : a1 < a0_2
  · rw [if_pos c3] at H
    have c3b0 : decide (a1 < a0_2) = true := decide_eq_true c3
    clear c3
    simp only [Option.some.injEq, Prod.mk.injEq] at H
    obtain ⟨rfl, rfl⟩ := H
    go_enter Try.func46, Try.ntmps46
    go_wp2_with (first | ((with_reducible refine gate_dst (N := 2) rfl ?_); refine bE_ 2 #[.slice A0_0 l0_0.length c0_0, .slice A0_1 l0_1.length c0_1, .int .u64 a0_2, .slice A0_3 l0_3.length c0_3] 29 ?_; intro gb106 hg w4 hbox hb; have BK106 := Aside0.mk hbox; have GW106 := geT_ w.heap.size hg; have GE106 := geT_ w.heap.size hg; replace HB := hB_ hb; clear hb hbox hg; obtain ⟨hcz5_0, hcz5_1, hcz5_2, hcz5_3, hfz5_0, hfz5_1, hfz5_2, hfz5_3⟩ := b4_ BK106.out))
    go_ret2
    exact ⟨r3_, beT_⟩
  rw [if_neg c3] at H
  have c3b0 : decide (a1 < a0_2) = false := decide_eq_false c3
  clear c3
  by_cases c6 : (IntKind.u64.wrap (a1 - a0_2)) ≥ 4294967296
  · rw [if_pos c6] at H
    have c6b0 : decide (4294967296 ≤ (IntKind.u64.wrap (a1 - a0_2))) = true := decide_eq_true c6
    clear c6
    simp only [Option.some.injEq, Prod.mk.injEq] at H
    obtain ⟨rfl, rfl⟩ := H
    go_enter Try.func46, Try.ntmps46
    go_wp2_with (first | ((with_reducible refine gate_dst (N := 2) rfl ?_); refine bE_ 2 #[.slice A0_0 l0_0.length c0_0, .slice A0_1 l0_1.length c0_1, .int .u64 a0_2, .slice A0_3 l0_3.length c0_3] 29 ?_; intro gb106 hg w7 hbox hb; have BK106 := Aside0.mk hbox; have GW106 := geT_ w.heap.size hg; have GE106 := geT_ w.heap.size hg; replace HB := hB_ hb; clear hb hbox hg; obtain ⟨hcz8_0, hcz8_1, hcz8_2, hcz8_3, hfz8_0, hfz8_1, hfz8_2, hfz8_3⟩ := b4_ BK106.out))
    go_ret2
    exact ⟨r3_, beT_⟩
  rw [if_neg c6] at H
  have c6b0 : decide (4294967296 ≤ (IntKind.u64.wrap (a1 - a0_2))) = false := decide_eq_false c6
  clear c6
  simp only [Option.some.injEq, Prod.mk.injEq] at H
  obtain ⟨rfl, rfl⟩ := H
  go_enter Try.func46, Try.ntmps46
  go_wp2_with (first | ((with_reducible refine gate_dst (N := 2) rfl ?_); refine bE_ 2 #[.slice A0_0 l0_0.length c0_0, .slice A0_1 l0_1.length c0_1, .int .u64 a0_2, .slice A0_3 l0_3.length c0_3] 29 ?_; intro gb106 hg w9 hbox hb; have BK106 := Aside0.mk hbox; have GW106 := geT_ w.heap.size hg; have GE106 := geT_ w.heap.size hg; replace HB := hB_ hb; clear hb hbox hg; obtain ⟨hcz10_0, hcz10_1, hcz10_2, hcz10_3, hfz10_0, hfz10_1, hfz10_2, hfz10_3⟩ := b4_ BK106.out))
  go_ret2
  exact ⟨r3_, beT_⟩

end Go.Proofs.Ytgkjdpdmmlalcaa.F
end
section
namespace Go.Proofs.Ytgkjdpdmmlalcaa.F
open Go.RowKit Go.Proofs.YtgkjdpdmmlalcaaW.PrintWords Go.Proofs.YtgkjdpdmmlalcaaW.PrintLast Go.Proofs.YtgkjdpdmmlalcaaW.PrintMore
attribute [local go_sem] max2_int min2_int max_two min_two max_three min_three max_four min_four
set_option linter.unusedVariables false
set_option linter.unusedSimpArgs false

def ferryref04_used.l0 : Nat → Int → Int → List (S83) → List (S88) → Int → List (S41) → Option (Bool)
  | 0, _, _, _, _, _, _ => none
  | k + 1, x1, x5, x108000, x108001, x108002, x108003 => if x5 < (x108003.length : Int) then (if 0 ≤ x5 then (if (IntKind.u64.wrap (Int.tdiv (IntKind.u64.wrap (x108002 + (IntKind.u64.wrap ((IntKind.u64.wrap ((rd_T41 x108003 x5).f0)) * 4096)))) 16384)) = x1 then (some true) else (ferryref04_used.l0 k x1 (wrap64 (x5 + 1)) x108000 x108001 x108002 x108003)) else (none)) else (some false)
def ferryref04_used.f (k : Nat) (l0_0 : List (S83)) (l0_1 : List (S88)) (a0_2 : Int) (l0_3 : List (S41)) (a1 : Int) : Option (Bool) := ferryref04_used.l0 k a1 0 l0_0 l0_1 a0_2 l0_3
set_option maxHeartbeats 8000000 in
set_option maxRecDepth 100000 in
theorem ferryref04_used.calls (k : Nat) (A0_0 : Option Addr) (c0_0 : Nat) (l0_0 : List (S83)) (A0_1 : Option Addr) (c0_1 : Nat) (l0_1 : List (S88)) (a0_2 : Int) (A0_3 : Option Addr) (c0_3 : Nat) (l0_3 : List (S41)) (a1 : Int) (r : Bool) (w : World) (hr0_0 : Kd.C k83 w A0_0 l0_0.length l0_0) (hc0_0 : l0_0.length ≤ c0_0) (hr0_1 : Kd.C k88 w A0_1 l0_1.length l0_1) (hc0_1 : l0_1.length ≤ c0_1) (hr0_3 : Kd.C k41 w A0_3 l0_3.length l0_3) (hc0_3 : l0_3.length ≤ c0_3) (h : ferryref04_used.f k l0_0 l0_1 a0_2 l0_3 a1 = some r) :
    Calls Try.prog 47 #[.agg #[.slice A0_0 l0_0.length c0_0, .slice A0_1 l0_1.length c0_1, .int .u64 a0_2, .slice A0_3 l0_3.length c0_3], .int .u64 a1] w fun e w' => e = .returned (.bool r) ∧ Below w.heap.size w w' := by
  have hu29 := Try.underlying29
  have HR0_0 := Aside0.mk hr0_0
  have HC0_0 := Aside0.mk hc0_0
  clear hr0_0 hc0_0
  have HR0_1 := Aside0.mk hr0_1
  have HC0_1 := Aside0.mk hc0_1
  clear hr0_1 hc0_1
  have HR0_3 := Aside0.mk hr0_3
  have HC0_3 := Aside0.mk hc0_3
  clear hr0_3 hc0_3
  have HB := Aside0.mk (Below.refl w.heap.size w)
  have H : (ferryref04_used.l0 k a1 0 l0_0 l0_1 a0_2 l0_3) = some r := h
  clear h
  have H' := Aside0.mk H
  clear H
  go_enter Try.func47, Try.ntmps47
  go_wp2_with (first | ((with_reducible refine gate_dst (N := 2) rfl ?_); refine bE_ 2 #[.slice A0_0 l0_0.length c0_0, .slice A0_1 l0_1.length c0_1, .int .u64 a0_2, .slice A0_3 l0_3.length c0_3] 29 ?_; intro gb107 hg w3 hbox hb; have BK107 := Aside0.mk hbox; have GW107 := geT_ w.heap.size hg; have GE107 := geT_ w.heap.size hg; replace HB := hB_ hb; clear hb hbox hg))
  repeat (go_quiet (first | ((with_reducible refine gate_dst (N := 2) rfl ?_); refine bE_ 2 #[.slice A0_0 l0_0.length c0_0, .slice A0_1 l0_1.length c0_1, .int .u64 a0_2, .slice A0_3 l0_3.length c0_3] 29 ?_; intro gb107 hg w3 hbox hb; have BK107 := Aside0.mk hbox; have GW107 := geT_ w.heap.size hg; have GE107 := geT_ w.heap.size hg; replace HB := hB_ hb; clear hb hbox hg)); try go_wp2_with (first | ((with_reducible refine gate_dst (N := 2) rfl ?_); refine bE_ 2 #[.slice A0_0 l0_0.length c0_0, .slice A0_1 l0_1.length c0_1, .int .u64 a0_2, .slice A0_3 l0_3.length c0_3] 29 ?_; intro gb107 hg w3 hbox hb; have BK107 := Aside0.mk hbox; have GW107 := geT_ w.heap.size hg; have GE107 := geT_ w.heap.size hg; replace HB := hB_ hb; clear hb hbox hg)))
  go_loopg [5] k (fun kq v5 w' => ∃ (x5_1 : Int), v5 = .int .i64 x5_1 ∧ Aside0 (ferryref04_used.l0 kq a1 x5_1 l0_0 l0_1 a0_2 l0_3 = some r) ∧ Aside0 (kq ≤ k) ∧ Aside0 (w'.heap[gb107]? = some (.cells #[(.slice A0_0 l0_0.length c0_0), (.slice A0_1 l0_1.length c0_1), .int .u64 a0_2, (.slice A0_3 l0_3.length c0_3)] 29 (0, 0))) ∧ Aside0 (Below w.heap.size w w'))
  case atStart => exact ⟨(0), r1_, H', ⟨Nat.le_refl _⟩, ⟨bT_ BK107.out⟩, ⟨beT_⟩⟩
  case round =>
    clear H'
    try clear p2
    obtain ⟨x5_1, rfl, HA, HK1, BK107, HB⟩ := hrel
    cases gk with
    | zero => exact absurd HA.out (by simp [ferryref04_used.l0])
    | succ k1 =>
      have H := HA.out
      clear HA
      simp only [ferryref04_used.l0] at H
      by_cases c4 : x5_1 < (l0_3.length : Int)
      · rw [if_pos c4] at H
        have c4b0 : decide (x5_1 < (l0_3.length : Int)) = true := decide_eq_true c4
        clear c4
        by_cases c5 : 0 ≤ x5_1
        · rw [if_pos c5] at H
          have c5b0 : decide (0 ≤ x5_1) = true := decide_eq_true c5
          clear c5
          by_cases c6 : (IntKind.u64.wrap (Int.tdiv (IntKind.u64.wrap (a0_2 + (IntKind.u64.wrap ((IntKind.u64.wrap ((rd_T41 l0_3 x5_1).f0)) * 4096)))) 16384)) = a1
          · rw [if_pos c6] at H
            have c6b0 : ((IntKind.u64.wrap (Int.tdiv (IntKind.u64.wrap (a0_2 + (IntKind.u64.wrap ((IntKind.u64.wrap ((rd_T41 l0_3 x5_1).f0)) * 4096)))) 16384)) == a1) = true := beq_iff_eq.mpr c6
            have c6b1 : ((IntKind.u64.wrap (Int.tdiv (IntKind.u64.wrap (a0_2 + (IntKind.u64.wrap ((IntKind.u64.wrap ((rd_T41 l0_3 x5_1).f0)) * 4096)))) 16384)) != a1) = false := bne_eq_false_iff_eq.mpr c6
            clear c6
            obtain rfl := Option.some.inj H
            obtain ⟨hcz7_0, hcz7_1, hcz7_2, hcz7_3, hfz7_0, hfz7_1, hfz7_2, hfz7_3⟩ := b4_ BK107.out
            have p108 : 0 ≤ (x5_1 : Int) := dT_
            have q108 : x5_1 < (l0_3.length : Int) := dT_
            obtain ⟨ad108, e108, hx108_0, hx108_1⟩ := at_T41 HR0_3.out x5_1 p108 q108
            cases e108
            replace hx108_0 := hX_ hx108_0
            replace hx108_1 := hX_ hx108_1
            replace p108 := eq_true p108
            replace q108 := eq_true q108
            go_wp2
            repeat (go_quiet (fail); try go_wp2)
            go_ret
            exact ⟨r3_, beT_⟩
          rw [if_neg c6] at H
          have c6b0 : ((IntKind.u64.wrap (Int.tdiv (IntKind.u64.wrap (a0_2 + (IntKind.u64.wrap ((IntKind.u64.wrap ((rd_T41 l0_3 x5_1).f0)) * 4096)))) 16384)) == a1) = false := beq_eq_false_iff_ne.mpr c6
          have c6b1 : ((IntKind.u64.wrap (Int.tdiv (IntKind.u64.wrap (a0_2 + (IntKind.u64.wrap ((IntKind.u64.wrap ((rd_T41 l0_3 x5_1).f0)) * 4096)))) 16384)) != a1) = true := bne_iff_ne.mpr c6
          have H' := Aside0.mk H
          clear H
          obtain ⟨hcz8_0, hcz8_1, hcz8_2, hcz8_3, hfz8_0, hfz8_1, hfz8_2, hfz8_3⟩ := b4_ BK107.out
          have p108 : 0 ≤ (x5_1 : Int) := dT_
          have q108 : x5_1 < (l0_3.length : Int) := dT_
          obtain ⟨ad108, e108, hx108_0, hx108_1⟩ := at_T41 HR0_3.out x5_1 p108 q108
          cases e108
          replace hx108_0 := hX_ hx108_0
          replace hx108_1 := hX_ hx108_1
          replace p108 := eq_true p108
          replace q108 := eq_true q108
          go_wp2
          repeat (go_quiet (fail); try go_wp2)
          go_roundg k1
          case measure => have := HK1.out; omega
          case rel => exact ⟨(wrap64 (x5_1 + 1)), r1_, H', ⟨by have := HK1.out; omega⟩, ⟨bT_ BK107.out⟩, ⟨beT_⟩⟩
        rw [if_neg c5] at H
        exact absurd H (by simp)
      rw [if_neg c4] at H
      have c4b0 : decide (x5_1 < (l0_3.length : Int)) = false := decide_eq_false c4
      clear c4
      obtain rfl := Option.some.inj H
      obtain ⟨hcz9_0, hcz9_1, hcz9_2, hcz9_3, hfz9_0, hfz9_1, hfz9_2, hfz9_3⟩ := b4_ BK107.out
      go_wp2
      repeat (go_quiet (fail); try go_wp2)
      go_ret
      exact ⟨r3_, beT_⟩

end Go.Proofs.Ytgkjdpdmmlalcaa.F
end
