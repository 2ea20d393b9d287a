import Derived.Test.YtgkjdpdmmlalcaaUZF0
import Derived.Test.YtgkjdpdmmlalcaaUA0
import Derived.Test.YtgkjdpdmmlalcaaUA1HHost0
import Derived.Test.YtgkjdpdmmlalcaaUA2
import Derived.Test.YtgkjdpdmmlalcaaUA4
import Derived.Test.YtgkjdpdmmlalcaaUA5HHost11
import Derived.Test.YtgkjdpdmmlalcaaUA6
import Derived.Test.YtgkjdpdmmlalcaaUA8
import Derived.Test.YtgkjdpdmmlalcaaUA10
import Derived.Test.YtgkjdpdmmlalcaaUA12
import Derived.Test.YtgkjdpdmmlalcaaUA13HHost6
import Derived.Test.YtgkjdpdmmlalcaaUA14
section
namespace Go.Proofs.Ytgkjdpdmmlalcaa.F
open Go.RowKit Go.Shelf Go.Proofs.YtgkjdpdmmlalcaaW.PrintWords Go.Proofs.YtgkjdpdmmlalcaaW.PrintLast Go.Proofs.YtgkjdpdmmlalcaaW.PrintMore
set_option linter.unusedVariables false
set_option linter.unusedSimpArgs false
def clearS (m : List SC) (a n : Int) : List SC := (m.map (clrC a n)).filter (fun x => !(x.f1 == 0))
theorem clrW_spec {y w : Nat} (hy : y + 8 ≤ 18446744073709551616) (hw : w < 256 ^ 8) (a n : Nat) : ∀ j, j ≤ 8 → ∃ q : Nat, q < 256 ^ 8 ∧ clrW (a : Int) (n : Int) (y : Int) (w : Int) j = (q : Int) ∧ ∀ k, k < 8 → byteAt q k = if k < j ∧ a ≤ y + k ∧ y + k - a < n then 0 else byteAt w k
  | 0, _ => ⟨w, hw, rfl, fun k _ => by rw [if_neg (by omega)]⟩
  | j + 1, hj => by
    obtain ⟨q, hq, e, hb⟩ := clrW_spec hy hw a n j (by omega)
    rw [clrW_succ, e]
    unfold clrStep
    have ea : IntKind.u64.wrap ((y : Int) + (j : Int)) = ((y + j : Nat) : Int) := by rw [u64w]; omega
    rw [ea, withB_eq (by omega) (by omega) (by omega)]
    by_cases hin : (a : Int) ≤ ((y + j : Nat) : Int) ∧ ((y + j : Nat) : Int) - (a : Int) < (n : Int)
    · have hp : 256 ^ 1 * 256 ^ j ≤ (18446744073709551616 : Nat) := by rw [← Nat.pow_add]; exact p256_le (by omega)
      have em : IntKind.u64.wrap (255 * 2 ^ (8 * j)) = (((256 ^ 1 - 1) * 256 ^ j : Nat) : Int) := by
        rw [u64w, show (255 : Int) * 2 ^ (8 * j) = (((256 ^ 1 - 1) * 256 ^ j : Nat) : Int) by rw [← p256 j]; simp]
        have := pos256 j
        omega
      rw [decide_eq_true hin, if_pos rfl, em, clr64 hq (by omega)]
      refine ⟨_, putIn_lt hq (by omega), rfl, fun k hk => ?_⟩
      rw [byteAt_putIn]
      by_cases h1 : k < j
      · rw [if_pos h1, hb k hk]
        by_cases h2 : a ≤ y + k ∧ y + k - a < n
        · rw [if_pos ⟨h1, h2⟩, if_pos ⟨by omega, h2⟩]
        rw [if_neg (by omega), if_neg (by omega)]
      rw [if_neg h1]
      by_cases h3 : k < j + 1
      · have hkj : k = j := by omega
        rw [if_pos h3, if_pos (by omega)]
        unfold byteAt
        simp
      rw [if_neg h3, if_neg (by omega), hb k hk, if_neg (by omega)]
    rw [decide_eq_false hin, if_neg (by decide)]
    refine ⟨q, hq, rfl, fun k hk => ?_⟩
    rw [hb k hk]
    by_cases h1 : k < j ∧ a ≤ y + k ∧ y + k - a < n
    · rw [if_pos h1, if_pos (by omega)]
    rw [if_neg h1]
    by_cases hkj : k = j
    · rw [if_neg (by omega)]
    rw [if_neg (by omega)]
theorem clrC_key (a n : Int) (x : SC) : clK (clrC a n x) = clK x := rfl
theorem clear_rises {m : List SC} (hr : Rises clK m) (a n : Int) : Rises clK (clearS m a n) := rises_filter clK _ (rises_map clK _ (clrC_key a n) hr)
theorem CellsH.clear {m : List SC} (h : CellsH m) (a n : Nat) : CellsH (clearS m (a : Int) (n : Int)) := by
  refine ⟨clear_rises h.mr _ _, fun x hx => ?_⟩
  obtain ⟨h1, h2⟩ := List.mem_filter.1 hx
  obtain ⟨y, hy, rfl⟩ := List.mem_map.1 h1
  have h3 := h.mp y hy
  obtain ⟨Y, hY⟩ : ∃ Y : Nat, y.f0 = (Y : Int) := ⟨y.f0.toNat, by omega⟩
  obtain ⟨W, hW⟩ : ∃ W : Nat, y.f1 = (W : Int) := ⟨y.f1.toNat, by omega⟩
  obtain ⟨q, hq, e, _⟩ := clrW_spec (y := Y) (w := W) (by omega) (by rw [p256_8]; omega) a n 8 (Nat.le_refl _)
  have e2 : (clrC (a : Int) (n : Int) y).f1 = (q : Int) := by
    show clrW _ _ y.f0 y.f1 8 = _
    rw [hY, hW]
    exact e
  rw [p256_8] at hq
  rw [e2] at h2 ⊢
  refine ⟨h3.1, h3.2.1, h3.2.2.1, ?_, by omega⟩
  have : ¬ (q : Int) = 0 := by simpa using h2
  omega
theorem FitH.clear {l : List SM} {m : List SC} (h : FitH l m) {a n : Int} (a0 : 0 ≤ a) (n0 : 0 ≤ n) : FitH l (clearS m a n) := by
  obtain ⟨A, rfl⟩ : ∃ N : Nat, a = (N : Int) := ⟨a.toNat, by omega⟩
  obtain ⟨M, rfl⟩ : ∃ N : Nat, n = (N : Int) := ⟨n.toNat, by omega⟩
  have hc := h.cells.clear A M
  refine ⟨h.lr, h.ln, h.lp, hc.mr, ?_, fun x hx => ?_⟩
  · have h1 : (clearS m (A : Int) (M : Int)).length ≤ m.length := by
      unfold clearS
      refine Nat.le_trans (List.length_filter_le _ _) ?_
      rw [List.length_map]
      exact Nat.le_refl _
    exact Nat.le_trans h1 h.mn
  · have h1 := hc.mp x hx
    refine ⟨h1.1, h1.2.1, h1.2.2.1, h1.2.2.2.1, h1.2.2.2.2, ?_⟩
    obtain ⟨h2, _⟩ := List.mem_filter.1 hx
    obtain ⟨y, hy, rfl⟩ := List.mem_map.1 h2
    exact (h.mp y hy).2.2.2.2.2
end Go.Proofs.Ytgkjdpdmmlalcaa.F
end
section
namespace Go.Proofs.Ytgkjdpdmmlalcaa.F
open Go.RowKit Go.Shelf Go.Proofs.YtgkjdpdmmlalcaaW.PrintWords Go.Proofs.YtgkjdpdmmlalcaaW.PrintLast Go.Proofs.YtgkjdpdmmlalcaaW.PrintMore
set_option linter.unusedVariables false
set_option linter.unusedSimpArgs false
theorem ref_Fit_spec (l : List SM) (m : List SC) (h : l.length ≤ 1000000 ∧ m.length ≤ 1000000) : ferryref03_Fit.f l m = some (fitR l m) := by
  unfold ferryref03_Fit.f
  rw [if_pos h]
theorem askS_all {l : List SM} {a need : Int} (a0 : 0 ≤ a) : ∀ {r : Nat} {i : Int}, 0 ≤ i → (∀ j : Int, i ≤ j → j < i + r → a + j < 18446744073709551616 ∧ faultS l (a + j) need = 0) → askS l a need r i = (0, 0)
  | 0, i, _, _ => rfl
  | r + 1, i, i0, h => by
    obtain ⟨h1, h2⟩ := h i (Int.le_refl _) (by omega)
    have e : (a + i) % 18446744073709551616 = a + i := by omega
    unfold askS
    rw [e, if_neg (by omega), if_pos h2]
    exact askS_all a0 (by omega) (fun j h3 h4 => h j (by omega) (by omega))
theorem byteAt_leN : ∀ (n : Nat) (f : Nat → Nat), (∀ i, i < n → f i < 256) → ∀ k, k < n → byteAt (leN n f) k = f k
  | 0, _, _, k, hk => by omega
  | n + 1, f, h, k, hk => by
    unfold leN
    have h0 := h 0 (by omega)
    have e : f 0 + 256 * leN n (fun i => f (i + 1)) = f 0 + 256 ^ 1 * leN n (fun i => f (i + 1)) := by rw [Nat.pow_one]
    rw [e, byteAt_join (by omega)]
    by_cases hk0 : k < 1
    · rw [if_pos hk0]
      obtain rfl : k = 0 := by omega
      unfold byteAt
      rw [Nat.pow_zero, Nat.div_one, Nat.mod_eq_of_lt h0]
    rw [if_neg hk0, byteAt_leN n _ (fun i hi => h (i + 1) (by omega)) (k - 1) (by omega)]
    congr 1
    omega
end Go.Proofs.Ytgkjdpdmmlalcaa.F
end
section
namespace Go.Proofs.Ytgkjdpdmmlalcaa.F
open Go.RowKit Go.Proofs.YtgkjdpdmmlalcaaW.PrintWords Go.Proofs.YtgkjdpdmmlalcaaW.PrintLast Go.Proofs.YtgkjdpdmmlalcaaW.PrintMore
attribute [local go_sem] max2_int min2_int max_two min_two max_three min_three max_four min_four
set_option linter.unusedVariables false
set_option linter.unusedSimpArgs false

def guest_Place.f (l0_0 : List (S83)) (l0_1 : List (S88)) (a0_2 : Int) (l0_3 : List (S41)) (a1 : Int) : Option (Int) := some (IntKind.u64.wrap (a0_2 + (IntKind.u64.wrap (a1))))
set_option maxHeartbeats 8000000 in
set_option maxRecDepth 100000 in
theorem guest_Place.calls (A0_0 : Option Addr) (c0_0 : Nat) (l0_0 : List (S83)) (A0_1 : Option Addr) (c0_1 : Nat) (l0_1 : List (S88)) (a0_2 : Int) (A0_3 : Option Addr) (c0_3 : Nat) (l0_3 : List (S41)) (a1 : Int) (r : Int) (w : World) (hr0_0 : Kd.C k83 w A0_0 l0_0.length l0_0) (hc0_0 : l0_0.length ≤ c0_0) (hr0_1 : Kd.C k88 w A0_1 l0_1.length l0_1) (hc0_1 : l0_1.length ≤ c0_1) (hr0_3 : Kd.C k41 w A0_3 l0_3.length l0_3) (hc0_3 : l0_3.length ≤ c0_3) (h : guest_Place.f l0_0 l0_1 a0_2 l0_3 a1 = some r) :
    Calls Try.prog 75 #[.agg #[.slice A0_0 l0_0.length c0_0, .slice A0_1 l0_1.length c0_1, .int .u64 a0_2, .slice A0_3 l0_3.length c0_3], .int .u32 a1] w fun e w' => e = .returned (.int .u64 r) ∧ Below w.heap.size w w' := by
  have hu29 := Try.underlying29
  have HR0_0 := Aside0.mk hr0_0
  have HC0_0 := Aside0.mk hc0_0
  clear hr0_0 hc0_0
  have HR0_1 := Aside0.mk hr0_1
  have HC0_1 := Aside0.mk hc0_1
  clear hr0_1 hc0_1
  have HR0_3 := Aside0.mk hr0_3
  have HC0_3 := Aside0.mk hc0_3
  clear hr0_3 hc0_3
  have HB := Aside0.mk (Below.refl w.heap.size w)
  have H : (some (IntKind.u64.wrap (a0_2 + (IntKind.u64.wrap (a1))))) = some r := h
  clear h
  obtain rfl := Option.some.inj H
  go_enter Try.func75, Try.ntmps75
  go_wp2_with (first | ((with_reducible refine gate_dst (N := 2) rfl ?_); refine bE_ 2 #[.slice A0_0 l0_0.length c0_0, .slice A0_1 l0_1.length c0_1, .int .u64 a0_2, .slice A0_3 l0_3.length c0_3] 29 ?_; intro gb128 hg w3 hbox hb; have BK128 := Aside0.mk hbox; have GW128 := geT_ w.heap.size hg; have GE128 := geT_ w.heap.size hg; replace HB := hB_ hb; clear hb hbox hg; obtain ⟨hcz4_0, hcz4_1, hcz4_2, hcz4_3, hfz4_0, hfz4_1, hfz4_2, hfz4_3⟩ := b4_ BK128.out))
  go_ret
  exact ⟨r3_, beT_⟩

end Go.Proofs.Ytgkjdpdmmlalcaa.F
end
section
namespace Go.Proofs.Ytgkjdpdmmlalcaa.F
open Go.RowKit Go.Proofs.YtgkjdpdmmlalcaaW.PrintWords Go.Proofs.YtgkjdpdmmlalcaaW.PrintLast Go.Proofs.YtgkjdpdmmlalcaaW.PrintMore
attribute [local go_sem] max2_int min2_int max_two min_two max_three min_three max_four min_four
attribute [local go_sem] u32w
set_option linter.unusedVariables false
set_option linter.unusedSimpArgs false

def guest_used.T3 : Bool × List (List Nat × List Nat) := (true, [([], []), ([], []), ([1], [1]), ([2], [2]), ([0, 3], [0, 3]), ([4], [4]), ([5], [5]), ([5], [5]), ([7, 5], [5, 7]), ([5], [5]), ([8, 9, 5], [5, 8, 9]), ([10, 5], [5, 10]), ([11, 5], [5, 11]), ([6, 12, 5, 5], [5, 6, 12]), ([5], [5]), ([13, 14, 5], [5, 13, 14]), ([5, 15], [5, 15]), ([16, 13, 0, 1, 2, 3, 4, 5, 6, 7, 8, 9, 10, 11, 12, 13, 14, 15, 16], [16])])
def guest_used.B3 : List Nat := [0, 0, 2, 6, 15, 31, 63, 63, 191, 63, 959, 1983, 4031, 8191, 63, 32767, 65535, 131071]
theorem guest_used.tab3 : rtab .any (opsOf Try.f95 3) = guest_used.T3 := by kernel_rfl
theorem guest_used.bits3 : waitsOk guest_used.T3.2 guest_used.B3 = true := by kernel_rfl
end Go.Proofs.Ytgkjdpdmmlalcaa.F
end
section
namespace Go.Proofs.Ytgkjdpdmmlalcaa.F
open Go.RowKit Go.Proofs.YtgkjdpdmmlalcaaW.PrintWords Go.Proofs.YtgkjdpdmmlalcaaW.PrintLast Go.Proofs.YtgkjdpdmmlalcaaW.PrintMore
attribute [local go_sem] max2_int min2_int max_two min_two max_three min_three max_four min_four
set_option linter.unusedVariables false
set_option linter.unusedSimpArgs false

def guest_Prot.f (l0_0 : List (S83)) (l0_1 : List (S88)) (a0_2 : Int) (l0_3 : List (S41)) (a1 : Int) : Option (Int) := (guest_at.f l0_3 a1).bind fun bt535 => (if bt535.2 = true then (if 0 ≤ bt535.1 then (if bt535.1 < (l0_3.length : Int) then (some ((rd_T41 l0_3 bt535.1).f1)) else (none)) else (none)) else (some (-1)))
set_option maxHeartbeats 8000000 in
set_option maxRecDepth 100000 in
theorem guest_Prot.calls (A0_0 : Option Addr) (c0_0 : Nat) (l0_0 : List (S83)) (A0_1 : Option Addr) (c0_1 : Nat) (l0_1 : List (S88)) (a0_2 : Int) (A0_3 : Option Addr) (c0_3 : Nat) (l0_3 : List (S41)) (a1 : Int) (r : Int) (w : World) (hr0_0 : Kd.C k83 w A0_0 l0_0.length l0_0) (hc0_0 : l0_0.length ≤ c0_0) (hr0_1 : Kd.C k88 w A0_1 l0_1.length l0_1) (hc0_1 : l0_1.length ≤ c0_1) (hr0_3 : Kd.C k41 w A0_3 l0_3.length l0_3) (hc0_3 : l0_3.length ≤ c0_3) (h : guest_Prot.f l0_0 l0_1 a0_2 l0_3 a1 = some r) :
    Calls Try.prog 86 #[.agg #[.slice A0_0 l0_0.length c0_0, .slice A0_1 l0_1.length c0_1, .int .u64 a0_2, .slice A0_3 l0_3.length c0_3], .int .u32 a1] w fun e w' => e = .returned (.int .i64 r) ∧ Below w.heap.size w w' := by
  have hu29 := Try.underlying29
  have HR0_0 := Aside0.mk hr0_0
  have HC0_0 := Aside0.mk hc0_0
  clear hr0_0 hc0_0
  have HR0_1 := Aside0.mk hr0_1
  have HC0_1 := Aside0.mk hc0_1
  clear hr0_1 hc0_1
  have HR0_3 := Aside0.mk hr0_3
  have HC0_3 := Aside0.mk hc0_3
  clear hr0_3 hc0_3
  have HB := Aside0.mk (Below.refl w.heap.size w)
  have H : ((guest_at.f l0_3 a1).bind fun bt535 => (if bt535.2 = true then (if 0 ≤ bt535.1 then (if bt535.1 < (l0_3.length : Int) then (some ((rd_T41 l0_3 bt535.1).f1)) else (none)) else (none)) else (some (-1)))) = some r := h
  clear h
  replace H := Option.bind_eq_some_iff.mp H
  obtain ⟨⟨t535, t536⟩, A30, H⟩ := H
  have A3 := Aside0.mk A30
  clear A30
  by_cases c4 : t536 = true
  · subst c4
    replace H := hP_ H
    by_cases c5 : 0 ≤ t535
    · rw [if_pos c5] at H
      have c5b0 : decide (0 ≤ t535) = true := decide_eq_true c5
      clear c5
      by_cases c6 : t535 < (l0_3.length : Int)
      · rw [if_pos c6] at H
        have c6b0 : decide (t535 < (l0_3.length : Int)) = true := decide_eq_true c6
        clear c6
        obtain rfl := Option.some.inj H
        go_enter Try.func86, Try.ntmps86
        go_wp2_with (first | ((with_reducible refine gate_dst (N := 2) rfl ?_); refine bE_ 2 #[.slice A0_0 l0_0.length c0_0, .slice A0_1 l0_1.length c0_1, .int .u64 a0_2, .slice A0_3 l0_3.length c0_3] 29 ?_; intro gb534 hg w7 hbox hb; have BK534 := Aside0.mk hbox; have GW534 := geT_ w.heap.size hg; have GE534 := geT_ w.heap.size hg; replace HB := hB_ hb; clear hb hbox hg; obtain ⟨hcz8_0, hcz8_1, hcz8_2, hcz8_3, hfz8_0, hfz8_1, hfz8_2, hfz8_3⟩ := b4_ BK534.out) | ((with_reducible refine gate_callee (f := 97) rfl ?_); refine gL_ (some 11) Try.func97 #[.slice A0_3 l0_3.length c0_3, .int .u32 a1] ?_; (with_reducible refine (guest_at.calls _ _ l0_3 a1 t535 true _ ?side1 ?side2 A3.out).mono ?_); (case side1 => exact cT_ (Kd.C_below HR0_3.out HB.out)); (case side2 => exact HC0_3.out); rintro e w9 ⟨rfl, hb⟩; refine ⟨_, rfl, ?_⟩; replace BK534 := kB_ BK534 hb; replace HB := hB_ hb; (try clear hb); (try clear hb2); (try clear hk); (try clear hi); obtain ⟨hcz10_0, hcz10_1, hcz10_2, hcz10_3, hfz10_0, hfz10_1, hfz10_2, hfz10_3⟩ := b4_ BK534.out; have p537 : 0 ≤ (t535 : Int) := dT_; have q537 : t535 < (l0_3.length : Int) := dT_; obtain ⟨ad537, e537, hx537_0, hx537_1⟩ := at_T41 HR0_3.out t535 p537 q537; cases e537; replace hx537_0 := hX_ hx537_0; replace hx537_1 := hX_ hx537_1; replace p537 := eq_true p537; replace q537 := eq_true q537))
        go_ret
        exact ⟨r3_, beT_⟩
      rw [if_neg c6] at H
      exact absurd H (by simp)
    rw [if_neg c5] at H
    exact absurd H (by simp)
  replace c4 := Bool.eq_false_iff.mpr c4
  subst c4
  replace H := hN_ H
  obtain rfl := Option.some.inj H
  go_enter Try.func86, Try.ntmps86
  go_wp2_with (first | ((with_reducible refine gate_dst (N := 2) rfl ?_); refine bE_ 2 #[.slice A0_0 l0_0.length c0_0, .slice A0_1 l0_1.length c0_1, .int .u64 a0_2, .slice A0_3 l0_3.length c0_3] 29 ?_; intro gb534 hg w11 hbox hb; have BK534 := Aside0.mk hbox; have GW534 := geT_ w.heap.size hg; have GE534 := geT_ w.heap.size hg; replace HB := hB_ hb; clear hb hbox hg; obtain ⟨hcz12_0, hcz12_1, hcz12_2, hcz12_3, hfz12_0, hfz12_1, hfz12_2, hfz12_3⟩ := b4_ BK534.out) | ((with_reducible refine gate_callee (f := 97) rfl ?_); refine gL_ (some 11) Try.func97 #[.slice A0_3 l0_3.length c0_3, .int .u32 a1] ?_; (with_reducible refine (guest_at.calls _ _ l0_3 a1 t535 false _ ?side1 ?side2 A3.out).mono ?_); (case side1 => exact cT_ (Kd.C_below HR0_3.out HB.out)); (case side2 => exact HC0_3.out); rintro e w13 ⟨rfl, hb⟩; refine ⟨_, rfl, ?_⟩; replace BK534 := kB_ BK534 hb; replace HB := hB_ hb; (try clear hb); (try clear hb2); (try clear hk); (try clear hi)))
  go_ret
  exact ⟨r3_, beT_⟩

end Go.Proofs.Ytgkjdpdmmlalcaa.F
end
section
namespace Go.Proofs.Ytgkjdpdmmlalcaa.F
open Go.RowKit Go.Shelf Go.Proofs.YtgkjdpdmmlalcaaW.PrintWords Go.Proofs.YtgkjdpdmmlalcaaW.PrintLast Go.Proofs.YtgkjdpdmmlalcaaW.PrintMore
set_option linter.unusedVariables false
set_option linter.unusedSimpArgs false
abbrev SP := S41
abbrev kP := k41
theorem pg_getR {l : List SP} {k : Nat} (h : k < l.length) : rd_T41 l (k : Int) = l[k] := by
  unfold rd_T41
  simp [h]
def hoS (b n : Int) : Int := IntKind.u64.wrap (Int.tdiv (IntKind.u64.wrap (b + (IntKind.u64.wrap ((n * 4096) % 4294967296)))) 16384)
def mappedS (l : List SM) (a : Int) : Int := if has mpK a l = true then prt l a else -1
def reachS (b a : Int) : Bool := decide (IntKind.u64.wrap (a - b) < 4294967296) && decide (a ≥ b)
def usedS (p : List SP) (b a : Int) : Bool :=
  match p[lowB pgK ((IntKind.u64.wrap (Int.tdiv (IntKind.u64.wrap ((IntKind.u64.wrap (a * 16384)) - b)) 4096)) % 4294967296) p]? with
  | none => false
  | some x => hoS b x.f0 == a
def protP (p : List SP) (n : Int) : Int := if has pgK n p = true then look pgK (fun x => x.f1) n p else -1
def lostB (l : List SM) (b : Int) (x : SP) : Bool := mappedS l (hoS b x.f0) != 3
def idleB (p : List SP) (b : Int) (x : SM) : Bool := reachS b (IntKind.u64.wrap (x.f0 * 16384)) && !usedS p b x.f0
def strayB (p : List SP) (b : Int) (x : SC) : Bool := reachS b x.f0 && decide (protP p ((IntKind.u64.wrap (Int.tdiv (IntKind.u64.wrap (x.f0 - b)) 4096)) % 4294967296) < 0)
theorem at_f {p : List SP} (hp : p.length ≤ 1000000) (hr : Rises pgK p) (n : Int) : guest_at.f p n = some (((lowB pgK n p : Nat) : Int), has pgK n p) := by
  unfold guest_at.f
  rw [if_pos ⟨hp, (risesB_iff p).2 hr⟩]
theorem prot_f (l : List SM) (m : List SC) (b : Int) {p : List SP} (hp : p.length ≤ 1000000) (hr : Rises pgK p) (n : Int) : guest_Prot.f l m b p n = some (protP p n) := by
  unfold guest_Prot.f protP
  rw [at_f hp hr, Option.bind_some]
  dsimp only
  cases hh : has pgK n p with
  | false => rw [if_neg (by decide), if_neg (by decide)]
  | true =>
    obtain ⟨hj, h3, h4⟩ := low_hit (val := fun x : SP => x.f1) hr hh
    rw [if_pos rfl, if_pos (by omega), if_pos (by omega), pg_getR hj, if_pos rfl]
    exact congrArg some h4
end Go.Proofs.Ytgkjdpdmmlalcaa.F
end
section
namespace Go.Proofs.Ytgkjdpdmmlalcaa.F
open Go.RowKit Go.Shelf Go.Proofs.YtgkjdpdmmlalcaaW.PrintWords Go.Proofs.YtgkjdpdmmlalcaaW.PrintLast Go.Proofs.YtgkjdpdmmlalcaaW.PrintMore
set_option linter.unusedVariables false
abbrev kM := k83
abbrev kC := k88
theorem kM_heap : Kd.Heap kM := Kd.heap_iso _ (Kd.heap_pair (Kd.heap_int .u64) (Kd.heap_int .i64))
theorem kC_heap : Kd.Heap kC := Kd.heap_iso _ (Kd.heap_pair (Kd.heap_int .u64) (Kd.heap_int .u64))
def HostV (W : World) (v0 v1 : Value) (l : List SM) (m : List SC) : Prop := SlV kM W v0 l ∧ SlV kC W v1 m
theorem HostV.below {W W' : World} {v0 v1 : Value} {l : List SM} {m : List SC} (h : HostV W v0 v1 l m) (hb : Below W.heap.size W W') : HostV W' v0 v1 l m := ⟨h.1.below hb, h.2.below hb⟩
theorem HostV.len {W : World} {v0 v1 : Value} {l : List SM} {m : List SC} (h : HostV W v0 v1 l m) : l.length ≤ 9223372036854775807 ∧ m.length ≤ 9223372036854775807 := by
  obtain ⟨⟨A, c, rfl, hc, hC⟩, ⟨A', c', rfl, hc', hC'⟩⟩ := h
  exact ⟨Kd.C_max hC, Kd.C_max hC'⟩
def RetH (W : World) (l : List SM) (m : List SC) (f : Value → Value) : Ending → World → Prop := fun e w' => ∃ A c A' c', e = .returned (f (.agg #[.slice A l.length c, .slice A' m.length c'])) ∧ HostV w' (.slice A l.length c) (.slice A' m.length c') l m ∧ Below W.heap.size W w'
theorem RetH.of {W w' : World} {l : List SM} {m : List SC} {f : Value → Value} {v0 v1 : Value} {B B' e1 e2 : Nat} {ok ok' : Nat → Prop} {e : Ending} (he : e = .returned (f (.agg #[v0, v1]))) (h0 : Kd.V kM e1 w' B ok v0 l) (h1 : Kd.V kC e2 w' B' ok' v1 m) (hb : Below W.heap.size W w') : RetH W l m f e w' := by
  obtain ⟨A, c, rfl, hc, hC⟩ := SlV.of_view h0
  obtain ⟨A', c', rfl, hc', hC'⟩ := SlV.of_view h1
  exact ⟨A, c, A', c', he, ⟨SlV.mk hC hc, SlV.mk hC' hc'⟩, hb⟩
section
variable {W : World} {v0 v1 : Value} {l : List SM} {m : List SC} {u0 u1 : Value} {l' : List SM} {m' : List SC}
end
theorem blk_new1 (w : World) (o o' : Obj) : ((w.alloc o).alloc o').heap[w.heap.size + 1]? = some o' := by
  have h := blk_new (w.alloc o) o'
  have e : (w.alloc o).heap.size = w.heap.size + 1 := by
    unfold World.alloc
    exact Array.size_push ..
  rwa [e] at h
end Go.Proofs.Ytgkjdpdmmlalcaa.F
end
section
namespace Go.Proofs.Ytgkjdpdmmlalcaa.F
open Go.RowKit Go.Shelf Go.Proofs.YtgkjdpdmmlalcaaW.PrintWords Go.Proofs.YtgkjdpdmmlalcaaW.PrintLast Go.Proofs.YtgkjdpdmmlalcaaW.PrintMore
set_option linter.unusedVariables false
set_option linter.unusedSimpArgs false
def badPg (p : List SP) (k : Nat) : Bool :=
  match p[k]? with
  | none => false
  | some x => decide (x.f0 ≥ 1048576) || ((Go.bits .andNot .i64 x.f1 7 != 0) || prevGe pgK p k x.f0)
def fpS (p : List SP) : Bool := !((List.range p.length).any (badPg p))
def gfitB (l : List SM) (m : List SC) (b : Int) (p : List SP) : Bool :=
  fitB l m && (!(Int.tmod b 16384 != 0) && (!decide (b > 4611686018427387904) && (!decide ((p.length : Int) > 256) && (fpS p && (!(p.any (lostB l b)) && (!(l.any (idleB p b)) && !(m.any (strayB p b))))))))
-- HAND fn=ferry/guest.Fit ; rounds=0 ; making=1 ; laid=0
end Go.Proofs.Ytgkjdpdmmlalcaa.F
end
section
namespace Go.Proofs.Ytgkjdpdmmlalcaa.F
open Go.RowKit Go.Shelf Go.Proofs.YtgkjdpdmmlalcaaW.PrintWords Go.Proofs.YtgkjdpdmmlalcaaW.PrintLast Go.Proofs.YtgkjdpdmmlalcaaW.PrintMore
set_option linter.unusedVariables false
set_option linter.unusedSimpArgs false
theorem kP_heap : Kd.Heap kP := Kd.heap_iso _ (Kd.heap_pair (Kd.heap_int .u32) (Kd.heap_int .i64))
def inP (x : SP) (a n : Int) : Bool := decide (x.f0 ≥ a) && decide (IntKind.u32.wrap (x.f0 - a) < n)
def delS (p : List SP) (a n : Int) : List SP := p.filter (fun x => !inP x a n)
def RowsG (W : World) (ok : Nat → Prop) (A0 : Option Addr) (c0 : Nat) (A1 : Option Addr) (c1 : Nat) (A3 : Option Addr) (c3 : Nat) (l : List SM) (m : List SC) (p : List SP) : Prop :=
  Kd.V kM 83 W 0 ok (.slice A0 l.length c0) l ∧ Kd.V kC 88 W 0 ok (.slice A1 m.length c1) m ∧ Kd.V kP 41 W 0 ok (.slice A3 p.length c3) p
section
variable {W W' : World} {ok ok' : Nat → Prop} {A0 A1 A3 : Option Addr} {c0 c1 c3 : Nat} {l : List SM} {m : List SC} {p : List SP}
theorem RowsG.below (h : RowsG W ok A0 c0 A1 c1 A3 c3 l m p) (hb : Below W.heap.size W W') : RowsG W' ok A0 c0 A1 c1 A3 c3 l m p := ⟨Kd.V_below h.1 hb, Kd.V_below h.2.1 hb, Kd.V_below h.2.2 hb⟩
theorem RowsG.wide (h : RowsG W ok A0 c0 A1 c1 A3 c3 l m p) (hk : ∀ k, ok k → ok' k) : RowsG W ok' A0 c0 A1 c1 A3 c3 l m p := ⟨Kd.V_mono h.1 hk, Kd.V_mono h.2.1 hk, Kd.V_mono h.2.2 hk⟩
theorem RowsG.move (h : RowsG W ok A0 c0 A1 c1 A3 c3 l m p) (hk : ∀ k, ok k → k < W.heap.size → W'.heap[k]? = W.heap[k]?) : RowsG W' ok A0 c0 A1 c1 A3 c3 l m p := ⟨Kd.V_step h.1 hk, Kd.V_step h.2.1 hk, Kd.V_step h.2.2 hk⟩
theorem RowsG.bound (h : RowsG W ok A0 c0 A1 c1 A3 c3 l m p) : RowsG W (fun k => ok k ∧ k < W.heap.size) A0 c0 A1 c1 A3 c3 l m p := ⟨Kd.V_bound h.1, Kd.V_bound h.2.1, Kd.V_bound h.2.2⟩
theorem RowsG.of (hC : Kd.C kM W A0 l.length l) (hc : l.length ≤ c0) (hD : Kd.C kC W A1 m.length m) (hd : m.length ≤ c1) (hE : Kd.C kP W A3 p.length p) (he : p.length ≤ c3) : RowsG W (fun k => k < W.heap.size) A0 c0 A1 c1 A3 c3 l m p :=
  ⟨Kd.V_mk hc (Kd.C_F kM_heap hC), Kd.V_mk hd (Kd.C_F kC_heap hD), Kd.V_mk he (Kd.C_F kP_heap hE)⟩
theorem RowsG.r0 (h : RowsG W ok A0 c0 A1 c1 A3 c3 l m p) : Kd.C kM W A0 l.length l := (Kd.V_reads' h.1).2.2
theorem RowsG.r1 (h : RowsG W ok A0 c0 A1 c1 A3 c3 l m p) : Kd.C kC W A1 m.length m := (Kd.V_reads' h.2.1).2.2
theorem RowsG.r3 (h : RowsG W ok A0 c0 A1 c1 A3 c3 l m p) : Kd.C kP W A3 p.length p := (Kd.V_reads' h.2.2).2.2
theorem RowsG.n0 (h : RowsG W ok A0 c0 A1 c1 A3 c3 l m p) : l.length ≤ c0 := (Kd.V_reads' h.1).2.1
theorem RowsG.n1 (h : RowsG W ok A0 c0 A1 c1 A3 c3 l m p) : m.length ≤ c1 := (Kd.V_reads' h.2.1).2.1
theorem RowsG.n3 (h : RowsG W ok A0 c0 A1 c1 A3 c3 l m p) : p.length ≤ c3 := (Kd.V_reads' h.2.2).2.1
theorem RowsG.host (h : RowsG W ok A0 c0 A1 c1 A3 c3 l m p) : HostV W (.slice A0 l.length c0) (.slice A1 m.length c1) l m := ⟨SlV.of_view h.1, SlV.of_view h.2.1⟩
theorem RowsG.swap {b0 b1 : Nat} {v0 v1 : Value} {l' : List SM} {m' : List SC} (h : RowsG W ok A0 c0 A1 c1 A3 c3 l m p) (h0 : Kd.V kM 83 W b0 ok v0 l') (h1 : Kd.V kC 88 W b1 ok v1 m') :
    ∃ A c B d, v0 = .slice A l'.length c ∧ v1 = .slice B m'.length d ∧ RowsG W ok A c B d A3 c3 l' m' p := by
  obtain ⟨A, c, rfl, hc, hF⟩ := h0
  obtain ⟨B, d, rfl, hd, hG⟩ := h1
  exact ⟨A, c, B, d, rfl, rfl, Kd.V_mk hc hF, Kd.V_mk hd hG, h.2.2⟩
def OwnP (W : World) (B : Nat) (A : Option Addr) (c : Nat) (p : List SP) : Prop := (A = none ∧ c = 0 ∧ p = []) ∨ ∃ g, A = some ⟨g, 0, none⟩ ∧ B ≤ g ∧ OwnB pgE 41 W g c p
theorem OwnP.of {v : Value} {B : Nat} {ok : Nat → Prop} (h : Kd.R kP 41 W B ok v p) : ∃ A c, v = .slice A p.length c ∧ OwnP W B A c p := by
  rcases pg_own h with ⟨rfl, rfl⟩ | ⟨g, cap, rfl, hg, ho⟩
  · exact ⟨none, 0, rfl, .inl ⟨rfl, rfl, rfl⟩⟩
  · exact ⟨_, cap, rfl, .inr ⟨g, rfl, hg, ho⟩⟩
theorem OwnP.R {A : Option Addr} {c B : Nat} (h : OwnP W B A c p) : Kd.R kP 41 W B (fun _ => True) (.slice A p.length c) p := by
  rcases h with ⟨rfl, rfl, rfl⟩ | ⟨g, rfl, hg, ho⟩
  · exact Kd.R_nil _ _ _ _ _
  · exact pg_R ho hg
theorem OwnP.move {A : Option Addr} {c B : Nat} (h : OwnP W B A c p) (hk : ∀ k, B ≤ k → k < W.heap.size → W'.heap[k]? = W.heap[k]?) : OwnP W' B A c p := by
  rcases h with h | ⟨g, e, hg, ho⟩
  · exact .inl h
  · exact .inr ⟨g, e, hg, ho.move (hk g hg ho.lt)⟩
def RowsH (W : World) (ok : Nat → Prop) (A0 : Option Addr) (c0 : Nat) (A1 : Option Addr) (c1 : Nat) (l : List SM) (m : List SC) : Prop := Kd.V kM 83 W 0 ok (.slice A0 l.length c0) l ∧ Kd.V kC 88 W 0 ok (.slice A1 m.length c1) m
theorem RowsG.rows (h : RowsG W ok A0 c0 A1 c1 A3 c3 l m p) : RowsH W ok A0 c0 A1 c1 l m := ⟨h.1, h.2.1⟩
theorem RowsH.below (h : RowsH W ok A0 c0 A1 c1 l m) (hb : Below W.heap.size W W') : RowsH W' ok A0 c0 A1 c1 l m := ⟨Kd.V_below h.1 hb, Kd.V_below h.2 hb⟩
theorem RowsH.wide (h : RowsH W ok A0 c0 A1 c1 l m) (hk : ∀ k, ok k → ok' k) : RowsH W ok' A0 c0 A1 c1 l m := ⟨Kd.V_mono h.1 hk, Kd.V_mono h.2 hk⟩
theorem RowsH.move (h : RowsH W ok A0 c0 A1 c1 l m) (hk : ∀ k, ok k → k < W.heap.size → W'.heap[k]? = W.heap[k]?) : RowsH W' ok A0 c0 A1 c1 l m := ⟨Kd.V_step h.1 hk, Kd.V_step h.2 hk⟩
theorem RowsH.bound (h : RowsH W ok A0 c0 A1 c1 l m) : RowsH W (fun k => ok k ∧ k < W.heap.size) A0 c0 A1 c1 l m := ⟨Kd.V_bound h.1, Kd.V_bound h.2⟩
theorem RowsH.swap {b0 b1 : Nat} {v0 v1 : Value} {l' : List SM} {m' : List SC} (h0 : Kd.V kM 83 W b0 ok v0 l') (h1 : Kd.V kC 88 W b1 ok v1 m') :
    ∃ A c B d, v0 = .slice A l'.length c ∧ v1 = .slice B m'.length d ∧ RowsH W ok A c B d l' m' := by
  obtain ⟨A, c, rfl, hc, hF⟩ := h0
  obtain ⟨B, d, rfl, hd, hG⟩ := h1
  exact ⟨A, c, B, d, rfl, rfl, Kd.V_mk hc hF, Kd.V_mk hd hG⟩
end
end Go.Proofs.Ytgkjdpdmmlalcaa.F
end
section
namespace Go.Proofs.Ytgkjdpdmmlalcaa.F
open Go.RowKit Go.Shelf Go.Proofs.YtgkjdpdmmlalcaaW.PrintWords Go.Proofs.YtgkjdpdmmlalcaaW.PrintLast Go.Proofs.YtgkjdpdmmlalcaaW.PrintMore
set_option linter.unusedVariables false
set_option linter.unusedSimpArgs false
def Flat {α : Type} (d : Kd α) : Prop := ∀ (W W' : World) (x : α) (c : List Value), d.K W x c → d.K W' x c
theorem kM_flat : Flat kM := fun _ _ _ _ h => h
theorem kC_flat : Flat kC := fun _ _ _ _ h => h
def IsC (W : World) (k : Nat) : Prop := ∃ cs t f, W.heap[k]? = some (.cells cs t f)
theorem isC_of_cell {W : World} {a : Addr} {u : Value} (h : W.cell? a = some u) : IsC W a.block := by
  unfold World.cell? at h
  cases hb : W.heap[a.block]? with
  | none => rw [hb] at h; cases h
  | some o =>
    rw [hb] at h
    cases o with
    | cells cs t f => exact ⟨cs, t, f, hb⟩
    | _ => cases h
theorem gadd_block (a : Addr) (n : Nat) : (a.add n).block = a.block := by unfold Addr.add; split <;> rfl
theorem C_block {α : Type} {d : Kd α} {W : World} {p : Addr} {n : Nat} {xs : List α} (h : Kd.C d W (some p) n xs) (hs : 0 < d.sz) (hn : 0 < n) : IsC W p.block := by
  obtain ⟨ad, e, hc⟩ := h.2.2 hn
  obtain rfl := Option.some.inj e
  have hl := h.1
  obtain ⟨c, hcl, _, hcell⟩ := hc 0 _ (List.getElem?_eq_getElem (by omega))
  exact gadd_block p (0 * d.sz + 0) ▸ isC_of_cell (hcell 0 c[0] (List.getElem?_eq_getElem (by omega)))
theorem C_same {α : Type} {d : Kd α} (hf : Flat d) {W W' : World} {A : Option Addr} {n : Nat} {xs : List α} (h : Kd.C d W A n xs) (hA : ∀ p, A = some p → 0 < n → W'.heap[p.block]? = W.heap[p.block]?) : Kd.C d W' A n xs := by
  refine ⟨h.1, h.2.1, fun hn => ?_⟩
  obtain ⟨ad, e, hc⟩ := h.2.2 hn
  refine ⟨ad, e, fun j p hj => ?_⟩
  obtain ⟨c, h1, h2, h3⟩ := hc j p hj
  exact ⟨c, h1, hf _ _ _ _ h2, fun i u hu => (World.cell?_of_block (a := ad.add (j * d.sz + i)) (by rw [gadd_block]; exact hA ad e hn)).trans (h3 i u hu)⟩
theorem F_in {α : Type} {d : Kd α} {W : World} {ok : Nat → Prop} {p : Addr} {n : Nat} {xs : List α} (h : Kd.F d W ok (some p) n xs) (hs : 0 < d.sz) (hn : 0 < n) : ok p.block := by
  refine Classical.byContradiction (fun hno => ?_)
  have h1 := h (W.putObj p.block (.deferred none)) (fun k hk _ => World.putObj_heap_other (fun e => hno (e ▸ hk)))
  obtain ⟨cs, t, f, h2⟩ := C_block h1 hs hn
  unfold World.putObj at h2
  rw [Array.getElem?_setIfInBounds_self] at h2
  split at h2 <;> cases h2
theorem F_cells {α : Type} {d : Kd α} (hf : Flat d) (hs : 0 < d.sz) {W : World} {ok : Nat → Prop} {A : Option Addr} {n : Nat} {xs : List α} (h : Kd.F d W ok A n xs) : Kd.F d W (fun k => ok k ∧ IsC W k) A n xs := fun W' hW =>
  C_same hf (Kd.F_now h) (fun p e hn => by
    subst e
    have hc := C_block (Kd.F_now h) hs hn
    obtain ⟨cs, t, f, h2⟩ := hc
    exact hW p.block ⟨F_in h hs hn, ⟨cs, t, f, h2⟩⟩ (sblk_lt h2))
theorem V_cells {α : Type} {d : Kd α} (hf : Flat d) (hs : 0 < d.sz) {e B : Nat} {W : World} {ok : Nat → Prop} {v : Value} {xs : List α} (h : Kd.V d e W B ok v xs) : Kd.V d e W B (fun k => ok k ∧ IsC W k) v xs := by
  obtain ⟨A, c, ev, hc, hF⟩ := h
  exact ⟨A, c, ev, hc, F_cells hf hs hF⟩
theorem RowsH.own {W W' : World} {ok : Nat → Prop} {A0 A1 : Option Addr} {c0 c1 : Nat} {l : List SM} {m : List SC} {row : Option Nat} (h : RowsH W ok A0 c0 A1 c1 l m) (hg : W.grownBy W' row) (hr : ∀ r, row = some r → ∃ o : Obj, W.heap[r]? = some o ∧ o.isCells = false) : RowsH W' ok A0 c0 A1 c1 l m := by
  have h2 : RowsH W (fun k => ok k ∧ IsC W k) A0 c0 A1 c1 l m := ⟨V_cells kM_flat (by decide) h.1, V_cells kC_flat (by decide) h.2⟩
  refine (h2.move (fun k hk hlt => hg.block k hlt (fun e => ?_))).wide (fun k hk => hk.1)
  obtain ⟨o, ho, hc⟩ := hr k e.symm
  obtain ⟨cs, t, f, h3⟩ := hk.2
  rw [h3] at ho
  cases ho
  cases hc
theorem blk_own {W W' : World} {row : Option Nat} {b : Nat} {cs : Array Value} {t : TypeId} {f : Nat × Nat} (h : W.heap[b]? = some (.cells cs t f)) (hg : W.grownBy W' row) (hr : ∀ r, row = some r → ∃ o : Obj, W.heap[r]? = some o ∧ o.isCells = false) : W'.heap[b]? = some (.cells cs t f) := by
  refine (hg.block b (sblk_lt h) (fun e => ?_)).trans h
  obtain ⟨o, ho, hc⟩ := hr b e.symm
  rw [h] at ho
  cases ho
  cases hc
set_option maxHeartbeats 4000000 in
theorem gPlace_any.calls (A0 : Option Addr) (n0 c0 : Nat) (A1 : Option Addr) (n1 c1 : Nat) (b : Int) (A3 : Option Addr) (n3 c3 : Nat) (a : Int) (w : World) :
    Calls Try.prog 75 #[.agg #[.slice A0 n0 c0, .slice A1 n1 c1, .int .u64 b, .slice A3 n3 c3], .int .u32 a] w fun e w' => e = .returned (.int .u64 (IntKind.u64.wrap (b + IntKind.u64.wrap a))) ∧ Below w.heap.size w w' := by
  have hu := Try.underlying29
  have HB := Lib.hid (below_new w (.cells #[.slice A0 n0 c0, .slice A1 n1 c1, .int .u64 b, .slice A3 n3 c3] 29))
  have q := (sblk_cell (blk_new w (.cells #[.slice A0 n0 c0, .slice A1 n1 c1, .int .u64 b, .slice A3 n3 c3] 29)) 2).trans rfl
  go_enter Try.func75, Try.ntmps75
  go_wp2
  go_ret
  exact ⟨rfl, HB.out⟩
def hostsL (lo hi : Int) : List Int := (List.range (hi + 1 - lo).toNat).map (fun (i : Nat) => lo + (i : Int))
def HInv (gw B0 B1 B2 : Nat) (b first n : Int) (W : World) : Prop :=
  W.heap[B0]? = some (.cells #[.pointer (some ⟨gw, 0, none⟩)] 133 (0, 0)) ∧ W.heap[B1]? = some (.cells #[.int .u32 first] 30 (0, 0)) ∧ W.heap[B2]? = some (.cells #[.int .u32 n] 30 (0, 0)) ∧
  ∃ A0 n0 c0 A1 n1 c1 A3 n3 c3, W.heap[gw]? = some (.cells #[.slice A0 n0 c0, .slice A1 n1 c1, .int .u64 b, .slice A3 n3 c3] 135 (0, 0))
theorem HInv.below {gw B0 B1 B2 : Nat} {b first n : Int} {W W' : World} (h : HInv gw B0 B1 B2 b first n W) (hb : Below W.heap.size W W') : HInv gw B0 B1 B2 b first n W' := by
  obtain ⟨h0, h1, h2, A0, n0, c0, A1, n1, c1, A3, n3, c3, h3⟩ := h
  exact ⟨blk_below h0 hb, blk_below h1 hb, blk_below h2 hb, A0, n0, c0, A1, n1, c1, A3, n3, c3, blk_below h3 hb⟩
theorem HInv.own {gw B0 B1 B2 : Nat} {b first n : Int} {W W' : World} {row : Option Nat} (h : HInv gw B0 B1 B2 b first n W) (hg : W.grownBy W' row) (hr : ∀ r, row = some r → ∃ o : Obj, W.heap[r]? = some o ∧ o.isCells = false) : HInv gw B0 B1 B2 b first n W' := by
  obtain ⟨h0, h1, h2, A0, n0, c0, A1, n1, c1, A3, n3, c3, h3⟩ := h
  exact ⟨blk_own h0 hg hr, blk_own h1 hg hr, blk_own h2 hg hr, A0, n0, c0, A1, n1, c1, A3, n3, c3, blk_own h3 hg hr⟩
end Go.Proofs.Ytgkjdpdmmlalcaa.F
end
section
namespace Go.Proofs
open Go.Shelf Go.RowKit
def Try.lays167_ren : Go.Shelf.Ren := ⟨fun | 167 => 84 | 240 => 87 | 276 => 111 | n => n, fun | 0 => 0 | 4 => 4 | 5 => 5 | 9 => 9 | 20 => 20 | 37 => 93 | 70 => 92 | 72 => 95 | 75 => 101 | 80 => 99 | 164 => 156 | n => n, fun | n => n⟩
theorem Try.lays167 : Go.Proofs.Lays.n167 Try.prog Try.lays167_ren := {
  mixed := by kernel_rfl
  f167 := Try.func84.trans (congrArg some (by kernel_rfl))
  f240 := Try.func87.trans (congrArg some (by kernel_rfl))
  f276 := Try.func111.trans (congrArg some (by kernel_rfl))
  t0 := Try.underlying0
  a0 := Try.isAgg0
  z0 := Try.sizeOf0
  v0 := Try.zeroValue0
  t4 := Try.underlying4
  a4 := Try.isAgg4
  z4 := Try.sizeOf4
  v4 := Try.zeroValue4
  t5 := Try.underlying5
  a5 := Try.isAgg5
  z5 := Try.sizeOf5
  v5 := Try.zeroValue5
  t9 := Try.underlying9
  a9 := Try.isAgg9
  z9 := Try.sizeOf9
  v9 := Try.zeroValue9
  t20 := Try.underlying20
  a20 := Try.isAgg20
  z20 := Try.sizeOf20
  v20 := Try.zeroValue20
  t37 := Try.underlying93
  a37 := Try.isAgg93
  z37 := Try.sizeOf93
  v37 := Try.zeroValue93
  t70 := Try.underlying92
  a70 := Try.isAgg92
  z70 := Try.sizeOf92
  v70 := Try.zeroValue92
  t72 := Try.underlying95
  a72 := Try.isAgg95
  z72 := Try.sizeOf95
  v72 := Try.zeroValue95
  t75 := Try.underlying101
  a75 := Try.isAgg101
  z75 := Try.sizeOf101
  v75 := Try.zeroValue101
  t164 := Try.underlying156
  a164 := Try.isAgg156
  z164 := Try.sizeOf156
  v164 := Try.zeroValue156 }
theorem Try.lays167_X : Builder.Extra Try.prog Try.lays167_ren := {
  sizeBuilder := by kernel_rfl
  liesBuilder := by kernel_rfl
  t5 := Try.underlying5
  a5 := Try.isAgg5
  z5 := Try.sizeOf5
  v5 := Try.zeroValue5
  infoByte := by kernel_rfl
  cellsByte := by kernel_rfl
  sizeByte := by kernel_rfl
  neB5 := by decide }
theorem Try.Builder_WriteByte_k (B b : Nat) (bs : List Value) (c : Int) (w : World) (h : Lib.IsBuilderF 95 5 B b bs w) (hlen : bs.length + 1 ≤ 140737488355328) (hBw : B ≤ w.heap.size) :
    Calls Try.prog 84 #[.pointer (some ⟨b, 0, none⟩), .int .u8 c] w fun e w' => e = .returned .nilIface ∧ (Lib.BuilderAtF 95 5 B b (.pointer (some ⟨b, 0, none⟩)) (bs ++ [.int .u8 c]) w' ∧ Below B w w' ∧ Lib.OthersKept 5 (some b) w w') :=
  Any.Builder_WriteByte_k Try.lays167 Try.lays167_X B b bs c w h hlen hBw
def Try.lays166_ren : Go.Shelf.Ren := ⟨fun | 166 => 59 | 240 => 87 | 276 => 111 | n => n, fun | 0 => 0 | 3 => 3 | 4 => 4 | 9 => 9 | 20 => 20 | 37 => 93 | 70 => 92 | 72 => 95 | 75 => 101 | 80 => 99 | 164 => 156 | n => n, fun | n => n⟩
theorem Try.lays166 : Go.Proofs.Lays.n166 Try.prog Try.lays166_ren := {
  mixed := by kernel_rfl
  f166 := Try.func59.trans (congrArg some (by kernel_rfl))
  f240 := Try.func87.trans (congrArg some (by kernel_rfl))
  f276 := Try.func111.trans (congrArg some (by kernel_rfl))
  t0 := Try.underlying0
  a0 := Try.isAgg0
  z0 := Try.sizeOf0
  v0 := Try.zeroValue0
  t3 := Try.underlying3
  a3 := Try.isAgg3
  z3 := Try.sizeOf3
  v3 := Try.zeroValue3
  t4 := Try.underlying4
  a4 := Try.isAgg4
  z4 := Try.sizeOf4
  v4 := Try.zeroValue4
  t9 := Try.underlying9
  a9 := Try.isAgg9
  z9 := Try.sizeOf9
  v9 := Try.zeroValue9
  t20 := Try.underlying20
  a20 := Try.isAgg20
  z20 := Try.sizeOf20
  v20 := Try.zeroValue20
  t37 := Try.underlying93
  a37 := Try.isAgg93
  z37 := Try.sizeOf93
  v37 := Try.zeroValue93
  t70 := Try.underlying92
  a70 := Try.isAgg92
  z70 := Try.sizeOf92
  v70 := Try.zeroValue92
  t72 := Try.underlying95
  a72 := Try.isAgg95
  z72 := Try.sizeOf95
  v72 := Try.zeroValue95
  t75 := Try.underlying101
  a75 := Try.isAgg101
  z75 := Try.sizeOf101
  v75 := Try.zeroValue101
  t164 := Try.underlying156
  a164 := Try.isAgg156
  z164 := Try.sizeOf156
  v164 := Try.zeroValue156 }
theorem Try.lays166_X : Builder.Extra Try.prog Try.lays166_ren := {
  sizeBuilder := by kernel_rfl
  liesBuilder := by kernel_rfl
  t5 := Try.underlying5
  a5 := Try.isAgg5
  z5 := Try.sizeOf5
  v5 := Try.zeroValue5
  infoByte := by kernel_rfl
  cellsByte := by kernel_rfl
  sizeByte := by kernel_rfl
  neB5 := by decide }
theorem Try.Builder_WriteString_k (B b : Nat) (bs : List Value) (s : ByteArray) (w : World) (h : Lib.IsBuilderF 95 5 B b bs w) (hlen : bs.length + s.size ≤ 140737488355328) (hBw : B ≤ w.heap.size) :
    Calls Try.prog 59 #[.pointer (some ⟨b, 0, none⟩), .string s] w fun e w' => e = .returned (.tuple #[.int .i64 s.size, .nilIface]) ∧ (Lib.BuilderAtF 95 5 B b (.pointer (some ⟨b, 0, none⟩)) (bs ++ Lib.strCells s) w' ∧ Below B w w' ∧ Lib.OthersKept 5 (some b) w w') :=
  Any.Builder_WriteString_k Try.lays166 Try.lays166_X B b bs s w h hlen hBw
def Try.lays169_ren : Go.Shelf.Ren := ⟨fun | 169 => 58 | n => n, fun | 0 => 0 | 3 => 3 | 9 => 9 | 37 => 93 | 70 => 92 | 72 => 95 | 127 => 129 | n => n, fun | n => n⟩
theorem Try.lays169 : Go.Proofs.Lays.n169 Try.prog Try.lays169_ren := {
  mixed := by kernel_rfl
  f169 := Try.func58.trans (congrArg some (by kernel_rfl))
  t0 := Try.underlying0
  a0 := Try.isAgg0
  z0 := Try.sizeOf0
  v0 := Try.zeroValue0
  t3 := Try.underlying3
  a3 := Try.isAgg3
  z3 := Try.sizeOf3
  v3 := Try.zeroValue3
  t9 := Try.underlying9
  a9 := Try.isAgg9
  z9 := Try.sizeOf9
  v9 := Try.zeroValue9
  t37 := Try.underlying93
  a37 := Try.isAgg93
  z37 := Try.sizeOf93
  v37 := Try.zeroValue93
  t70 := Try.underlying92
  a70 := Try.isAgg92
  z70 := Try.sizeOf92
  v70 := Try.zeroValue92
  t72 := Try.underlying95
  a72 := Try.isAgg95
  z72 := Try.sizeOf95
  v72 := Try.zeroValue95
  t127 := Try.underlying129
  a127 := Try.isAgg129
  z127 := Try.sizeOf129
  v127 := Try.zeroValue129 }
theorem Try.lays169_X : Builder.Extra Try.prog Try.lays169_ren := {
  sizeBuilder := by kernel_rfl
  liesBuilder := by kernel_rfl
  t5 := Try.underlying5
  a5 := Try.isAgg5
  z5 := Try.sizeOf5
  v5 := Try.zeroValue5
  infoByte := by kernel_rfl
  cellsByte := by kernel_rfl
  sizeByte := by kernel_rfl
  neB5 := by decide }
theorem Try.Builder_String_any_k (B b : Nat) (l : List UInt8) (w : World) (h : Lib.IsBuilderF 95 5 B b (Lib.byteCells l) w) (hBw : B ≤ w.heap.size) :
    Calls Try.prog 58 #[.pointer (some ⟨b, 0, none⟩)] w fun e w' => e = .returned (.string ⟨l.toArray⟩) ∧ (Lib.IsBuilderF 95 5 B b (Lib.byteCells l) w' ∧ Below B w w' ∧ Lib.OthersKept 5 (some b) w w') :=
  Any.Builder_String_any_k Try.lays169 Try.lays169_X B b l w h hBw
end Go.Proofs
end
