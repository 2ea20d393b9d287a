import Derived.Test.YtgkjdpdmmlalcaaTZF0
import Derived.Test.YtgkjdpdmmlalcaaTA0
import Derived.Test.YtgkjdpdmmlalcaaTA1HHost0
import Derived.Test.YtgkjdpdmmlalcaaTA2
import Derived.Test.YtgkjdpdmmlalcaaTA4
import Derived.Test.YtgkjdpdmmlalcaaTA5HHost11
import Derived.Test.YtgkjdpdmmlalcaaTA6
import Derived.Test.YtgkjdpdmmlalcaaTA10
import Derived.Test.YtgkjdpdmmlalcaaTA12
import Derived.Test.YtgkjdpdmmlalcaaTA13HHost6
import Derived.Test.YtgkjdpdmmlalcaaTA14
section
namespace Go.Proofs.Ytgkjdpdmmlalcaa.F
open Go.RowKit Go.Shelf Go.Proofs.YtgkjdpdmmlalcaaW.PrintWords Go.Proofs.YtgkjdpdmmlalcaaW.PrintLast Go.Proofs.YtgkjdpdmmlalcaaW.PrintMore
set_option linter.unusedVariables false
set_option linter.unusedSimpArgs false
def clearS (m : List SC) (a n : Int) : List SC := (m.map (clrC a n)).filter (fun x => !(x.f1 == 0))
theorem clrW_spec {y w : Nat} (hy : y + 8 ≤ 18446744073709551616) (hw : w < 256 ^ 8) (a n : Nat) : ∀ j, j ≤ 8 → ∃ q : Nat, q < 256 ^ 8 ∧ clrW (a : Int) (n : Int) (y : Int) (w : Int) j = (q : Int) ∧ ∀ k, k < 8 → byteAt q k = if k < j ∧ a ≤ y + k ∧ y + k - a < n then 0 else byteAt w k
  | 0, _ => ⟨w, hw, rfl, fun k _ => by rw [if_neg (by omega)]⟩
  | j + 1, hj => by
    obtain ⟨q, hq, e, hb⟩ := clrW_spec hy hw a n j (by omega)
    rw [clrW_succ, e]
    unfold clrStep
    have ea : IntKind.u64.wrap ((y : Int) + (j : Int)) = ((y + j : Nat) : Int) := by rw [u64w]; omega
    rw [ea, withB_eq (by omega) (by omega) (by omega)]
    by_cases hin : (a : Int) ≤ ((y + j : Nat) : Int) ∧ ((y + j : Nat) : Int) - (a : Int) < (n : Int)
    · have hp : 256 ^ 1 * 256 ^ j ≤ (18446744073709551616 : Nat) := by rw [← Nat.pow_add]; exact p256_le (by omega)
      have em : IntKind.u64.wrap (255 * 2 ^ (8 * j)) = (((256 ^ 1 - 1) * 256 ^ j : Nat) : Int) := by
        rw [u64w, show (255 : Int) * 2 ^ (8 * j) = (((256 ^ 1 - 1) * 256 ^ j : Nat) : Int) by rw [← p256 j]; simp]
        have := pos256 j
        omega
      rw [decide_eq_true hin, if_pos rfl, em, clr64 hq (by omega)]
      refine ⟨_, putIn_lt hq (by omega), rfl, fun k hk => ?_⟩
      rw [byteAt_putIn]
      by_cases h1 : k < j
      · rw [if_pos h1, hb k hk]
        by_cases h2 : a ≤ y + k ∧ y + k - a < n
        · rw [if_pos ⟨h1, h2⟩, if_pos ⟨by omega, h2⟩]
        rw [if_neg (by omega), if_neg (by omega)]
      rw [if_neg h1]
      by_cases h3 : k < j + 1
      · have hkj : k = j := by omega
        rw [if_pos h3, if_pos (by omega)]
        unfold byteAt
        simp
      rw [if_neg h3, if_neg (by omega), hb k hk, if_neg (by omega)]
    rw [decide_eq_false hin, if_neg (by decide)]
    refine ⟨q, hq, rfl, fun k hk => ?_⟩
    rw [hb k hk]
    by_cases h1 : k < j ∧ a ≤ y + k ∧ y + k - a < n
    · rw [if_pos h1, if_pos (by omega)]
    rw [if_neg h1]
    by_cases hkj : k = j
    · rw [if_neg (by omega)]
    rw [if_neg (by omega)]
theorem clrC_key (a n : Int) (x : SC) : clK (clrC a n x) = clK x := rfl
theorem clear_rises {m : List SC} (hr : Rises clK m) (a n : Int) : Rises clK (clearS m a n) := rises_filter clK _ (rises_map clK _ (clrC_key a n) hr)
theorem CellsH.clear {m : List SC} (h : CellsH m) (a n : Nat) : CellsH (clearS m (a : Int) (n : Int)) := by
  refine ⟨clear_rises h.mr _ _, fun x hx => ?_⟩
  obtain ⟨h1, h2⟩ := List.mem_filter.1 hx
  obtain ⟨y, hy, rfl⟩ := List.mem_map.1 h1
  have h3 := h.mp y hy
  obtain ⟨Y, hY⟩ : ∃ Y : Nat, y.f0 = (Y : Int) := ⟨y.f0.toNat, by omega⟩
  obtain ⟨W, hW⟩ : ∃ W : Nat, y.f1 = (W : Int) := ⟨y.f1.toNat, by omega⟩
  obtain ⟨q, hq, e, _⟩ := clrW_spec (y := Y) (w := W) (by omega) (by rw [p256_8]; omega) a n 8 (Nat.le_refl _)
  have e2 : (clrC (a : Int) (n : Int) y).f1 = (q : Int) := by
    show clrW _ _ y.f0 y.f1 8 = _
    rw [hY, hW]
    exact e
  rw [p256_8] at hq
  rw [e2] at h2 ⊢
  refine ⟨h3.1, h3.2.1, h3.2.2.1, ?_, by omega⟩
  have : ¬ (q : Int) = 0 := by simpa using h2
  omega
theorem FitH.clear {l : List SM} {m : List SC} (h : FitH l m) {a n : Int} (a0 : 0 ≤ a) (n0 : 0 ≤ n) : FitH l (clearS m a n) := by
  obtain ⟨A, rfl⟩ : ∃ N : Nat, a = (N : Int) := ⟨a.toNat, by omega⟩
  obtain ⟨M, rfl⟩ : ∃ N : Nat, n = (N : Int) := ⟨n.toNat, by omega⟩
  have hc := h.cells.clear A M
  refine ⟨h.lr, h.ln, h.lp, hc.mr, ?_, fun x hx => ?_⟩
  · have h1 : (clearS m (A : Int) (M : Int)).length ≤ m.length := by
      unfold clearS
      refine Nat.le_trans (List.length_filter_le _ _) ?_
      rw [List.length_map]
      exact Nat.le_refl _
    exact Nat.le_trans h1 h.mn
  · have h1 := hc.mp x hx
    refine ⟨h1.1, h1.2.1, h1.2.2.1, h1.2.2.2.1, h1.2.2.2.2, ?_⟩
    obtain ⟨h2, _⟩ := List.mem_filter.1 hx
    obtain ⟨y, hy, rfl⟩ := List.mem_map.1 h2
    exact (h.mp y hy).2.2.2.2.2
end Go.Proofs.Ytgkjdpdmmlalcaa.F
end
section
namespace Go.Proofs.Ytgkjdpdmmlalcaa.F
open Go.RowKit Go.Shelf Go.Proofs.YtgkjdpdmmlalcaaW.PrintWords Go.Proofs.YtgkjdpdmmlalcaaW.PrintLast Go.Proofs.YtgkjdpdmmlalcaaW.PrintMore
set_option linter.unusedVariables false
set_option linter.unusedSimpArgs false
theorem ref_Fit_spec (l : List SM) (m : List SC) (h : l.length ≤ 1000000 ∧ m.length ≤ 1000000) : ferryref03_Fit.f l m = some (fitR l m) := by
  unfold ferryref03_Fit.f
  rw [if_pos h]
theorem askS_all {l : List SM} {a need : Int} (a0 : 0 ≤ a) : ∀ {r : Nat} {i : Int}, 0 ≤ i → (∀ j : Int, i ≤ j → j < i + r → a + j < 18446744073709551616 ∧ faultS l (a + j) need = 0) → askS l a need r i = (0, 0)
  | 0, i, _, _ => rfl
  | r + 1, i, i0, h => by
    obtain ⟨h1, h2⟩ := h i (Int.le_refl _) (by omega)
    have e : (a + i) % 18446744073709551616 = a + i := by omega
    unfold askS
    rw [e, if_neg (by omega), if_pos h2]
    exact askS_all a0 (by omega) (fun j h3 h4 => h j (by omega) (by omega))
theorem byteAt_leN : ∀ (n : Nat) (f : Nat → Nat), (∀ i, i < n → f i < 256) → ∀ k, k < n → byteAt (leN n f) k = f k
  | 0, _, _, k, hk => by omega
  | n + 1, f, h, k, hk => by
    unfold leN
    have h0 := h 0 (by omega)
    have e : f 0 + 256 * leN n (fun i => f (i + 1)) = f 0 + 256 ^ 1 * leN n (fun i => f (i + 1)) := by rw [Nat.pow_one]
    rw [e, byteAt_join (by omega)]
    by_cases hk0 : k < 1
    · rw [if_pos hk0]
      obtain rfl : k = 0 := by omega
      unfold byteAt
      rw [Nat.pow_zero, Nat.div_one, Nat.mod_eq_of_lt h0]
    rw [if_neg hk0, byteAt_leN n _ (fun i hi => h (i + 1) (by omega)) (k - 1) (by omega)]
    congr 1
    omega
end Go.Proofs.Ytgkjdpdmmlalcaa.F
end
section
namespace Go.Proofs.Ytgkjdpdmmlalcaa.F
open Go.RowKit Go.Proofs.YtgkjdpdmmlalcaaW.PrintWords Go.Proofs.YtgkjdpdmmlalcaaW.PrintLast Go.Proofs.YtgkjdpdmmlalcaaW.PrintMore
attribute [local go_sem] max2_int min2_int max_two min_two max_three min_three max_four min_four
attribute [local go_sem] u32w
set_option linter.unusedVariables false
set_option linter.unusedSimpArgs false

def guest_used.T3 : Bool × List (List Nat × List Nat) := (true, [([], []), ([], []), ([1], [1]), ([2], [2]), ([0, 3], [0, 3]), ([4], [4]), ([5], [5]), ([5], [5]), ([7, 5], [5, 7]), ([5], [5]), ([8, 9, 5], [5, 8, 9]), ([10, 5], [5, 10]), ([11, 5], [5, 11]), ([6, 12, 5, 5], [5, 6, 12]), ([5], [5]), ([13, 14, 5], [5, 13, 14]), ([5, 15], [5, 15]), ([16, 13, 0, 1, 2, 3, 4, 5, 6, 7, 8, 9, 10, 11, 12, 13, 14, 15, 16], [16])])
def guest_used.B3 : List Nat := [0, 0, 2, 6, 15, 31, 63, 63, 191, 63, 959, 1983, 4031, 8191, 63, 32767, 65535, 131071]
theorem guest_used.tab3 : rtab .any (opsOf Try.f95 3) = guest_used.T3 := by kernel_rfl
theorem guest_used.bits3 : waitsOk guest_used.T3.2 guest_used.B3 = true := by kernel_rfl
end Go.Proofs.Ytgkjdpdmmlalcaa.F
end
section
namespace Go.Proofs.Ytgkjdpdmmlalcaa.F
open Go.RowKit Go.Proofs.YtgkjdpdmmlalcaaW.PrintWords Go.Proofs.YtgkjdpdmmlalcaaW.PrintLast Go.Proofs.YtgkjdpdmmlalcaaW.PrintMore
attribute [local go_sem] max2_int min2_int max_two min_two max_three min_three max_four min_four
set_option linter.unusedVariables false
set_option linter.unusedSimpArgs false

def guest_Prot.f (l0_0 : List (S83)) (l0_1 : List (S88)) (a0_2 : Int) (l0_3 : List (S41)) (a1 : Int) : Option (Int) := (guest_at.f l0_3 a1).bind fun bt535 => (if bt535.2 = true then (if 0 ≤ bt535.1 then (if bt535.1 < (l0_3.length : Int) then (some ((rd_T41 l0_3 bt535.1).f1)) else (none)) else (none)) else (some (-1)))
set_option maxHeartbeats 8000000 in
set_option maxRecDepth 100000 in
theorem guest_Prot.calls (A0_0 : Option Addr) (c0_0 : Nat) (l0_0 : List (S83)) (A0_1 : Option Addr) (c0_1 : Nat) (l0_1 : List (S88)) (a0_2 : Int) (A0_3 : Option Addr) (c0_3 : Nat) (l0_3 : List (S41)) (a1 : Int) (r : Int) (w : World) (hr0_0 : Kd.C k83 w A0_0 l0_0.length l0_0) (hc0_0 : l0_0.length ≤ c0_0) (hr0_1 : Kd.C k88 w A0_1 l0_1.length l0_1) (hc0_1 : l0_1.length ≤ c0_1) (hr0_3 : Kd.C k41 w A0_3 l0_3.length l0_3) (hc0_3 : l0_3.length ≤ c0_3) (h : guest_Prot.f l0_0 l0_1 a0_2 l0_3 a1 = some r) :
    Calls Try.prog 86 #[.agg #[.slice A0_0 l0_0.length c0_0, .slice A0_1 l0_1.length c0_1, .int .u64 a0_2, .slice A0_3 l0_3.length c0_3], .int .u32 a1] w fun e w' => e = .returned (.int .i64 r) ∧ Below w.heap.size w w' := by
  have hu29 := Try.underlying29
  have HR0_0 := Aside0.mk hr0_0
  have HC0_0 := Aside0.mk hc0_0
  clear hr0_0 hc0_0
  have HR0_1 := Aside0.mk hr0_1
  have HC0_1 := Aside0.mk hc0_1
  clear hr0_1 hc0_1
  have HR0_3 := Aside0.mk hr0_3
  have HC0_3 := Aside0.mk hc0_3
  clear hr0_3 hc0_3
  have HB := Aside0.mk (Below.refl w.heap.size w)
  have H : ((guest_at.f l0_3 a1).bind fun bt535 => (if bt535.2 = true then (if 0 ≤ bt535.1 then (if bt535.1 < (l0_3.length : Int) then (some ((rd_T41 l0_3 bt535.1).f1)) else (none)) else (none)) else (some (-1)))) = some r := h
  clear h
  replace H := Option.bind_eq_some_iff.mp H
  obtain ⟨⟨t535, t536⟩, A30, H⟩ := H
  have A3 := Aside0.mk A30
  clear A30
  by_cases c4 : t536 = true
  · subst c4
    replace H := hP_ H
    by_cases c5 : 0 ≤ t535
    · rw [if_pos c5] at H
      have c5b0 : decide (0 ≤ t535) = true := decide_eq_true c5
      clear c5
      by_cases c6 : t535 < (l0_3.length : Int)
      · rw [if_pos c6] at H
        have c6b0 : decide (t535 < (l0_3.length : Int)) = true := decide_eq_true c6
        clear c6
        obtain rfl := Option.some.inj H
        go_enter Try.func86, Try.ntmps86
        go_wp2_with (first | ((with_reducible refine gate_dst (N := 2) rfl ?_); refine bE_ 2 #[.slice A0_0 l0_0.length c0_0, .slice A0_1 l0_1.length c0_1, .int .u64 a0_2, .slice A0_3 l0_3.length c0_3] 29 ?_; intro gb534 hg w7 hbox hb; have BK534 := Aside0.mk hbox; have GW534 := geT_ w.heap.size hg; have GE534 := geT_ w.heap.size hg; replace HB := hB_ hb; clear hb hbox hg; obtain ⟨hcz8_0, hcz8_1, hcz8_2, hcz8_3, hfz8_0, hfz8_1, hfz8_2, hfz8_3⟩ := b4_ BK534.out) | ((with_reducible refine gate_callee (f := 97) rfl ?_); refine gL_ (some 11) Try.func97 #[.slice A0_3 l0_3.length c0_3, .int .u32 a1] ?_; (with_reducible refine (guest_at.calls _ _ l0_3 a1 t535 true _ ?side1 ?side2 A3.out).mono ?_); (case side1 => exact cT_ (Kd.C_below HR0_3.out HB.out)); (case side2 => exact HC0_3.out); rintro e w9 ⟨rfl, hb⟩; refine ⟨_, rfl, ?_⟩; replace BK534 := kB_ BK534 hb; replace HB := hB_ hb; (try clear hb); (try clear hb2); (try clear hk); (try clear hi); obtain ⟨hcz10_0, hcz10_1, hcz10_2, hcz10_3, hfz10_0, hfz10_1, hfz10_2, hfz10_3⟩ := b4_ BK534.out; have p537 : 0 ≤ (t535 : Int) := dT_; have q537 : t535 < (l0_3.length : Int) := dT_; obtain ⟨ad537, e537, hx537_0, hx537_1⟩ := at_T41 HR0_3.out t535 p537 q537; cases e537; replace hx537_0 := hX_ hx537_0; replace hx537_1 := hX_ hx537_1; replace p537 := eq_true p537; replace q537 := eq_true q537))
        go_ret
        exact ⟨r3_, beT_⟩
      rw [if_neg c6] at H
      exact absurd H (by simp)
    rw [if_neg c5] at H
    exact absurd H (by simp)
  replace c4 := Bool.eq_false_iff.mpr c4
  subst c4
  replace H := hN_ H
  obtain rfl := Option.some.inj H
  go_enter Try.func86, Try.ntmps86
  go_wp2_with (first | ((with_reducible refine gate_dst (N := 2) rfl ?_); refine bE_ 2 #[.slice A0_0 l0_0.length c0_0, .slice A0_1 l0_1.length c0_1, .int .u64 a0_2, .slice A0_3 l0_3.length c0_3] 29 ?_; intro gb534 hg w11 hbox hb; have BK534 := Aside0.mk hbox; have GW534 := geT_ w.heap.size hg; have GE534 := geT_ w.heap.size hg; replace HB := hB_ hb; clear hb hbox hg; obtain ⟨hcz12_0, hcz12_1, hcz12_2, hcz12_3, hfz12_0, hfz12_1, hfz12_2, hfz12_3⟩ := b4_ BK534.out) | ((with_reducible refine gate_callee (f := 97) rfl ?_); refine gL_ (some 11) Try.func97 #[.slice A0_3 l0_3.length c0_3, .int .u32 a1] ?_; (with_reducible refine (guest_at.calls _ _ l0_3 a1 t535 false _ ?side1 ?side2 A3.out).mono ?_); (case side1 => exact cT_ (Kd.C_below HR0_3.out HB.out)); (case side2 => exact HC0_3.out); rintro e w13 ⟨rfl, hb⟩; refine ⟨_, rfl, ?_⟩; replace BK534 := kB_ BK534 hb; replace HB := hB_ hb; (try clear hb); (try clear hb2); (try clear hk); (try clear hi)))
  go_ret
  exact ⟨r3_, beT_⟩

end Go.Proofs.Ytgkjdpdmmlalcaa.F
end
section
namespace Go.Proofs.Ytgkjdpdmmlalcaa.F
open Go.RowKit Go.Shelf Go.Proofs.YtgkjdpdmmlalcaaW.PrintWords Go.Proofs.YtgkjdpdmmlalcaaW.PrintLast Go.Proofs.YtgkjdpdmmlalcaaW.PrintMore
set_option linter.unusedVariables false
set_option linter.unusedSimpArgs false
abbrev SP := S41
abbrev kP := k41
theorem pg_getR {l : List SP} {k : Nat} (h : k < l.length) : rd_T41 l (k : Int) = l[k] := by
  unfold rd_T41
  simp [h]
def hoS (b n : Int) : Int := IntKind.u64.wrap (Int.tdiv (IntKind.u64.wrap (b + (IntKind.u64.wrap ((n * 4096) % 4294967296)))) 16384)
def mappedS (l : List SM) (a : Int) : Int := if has mpK a l = true then prt l a else -1
def reachS (b a : Int) : Bool := decide (IntKind.u64.wrap (a - b) < 4294967296) && decide (a ≥ b)
def usedS (p : List SP) (b a : Int) : Bool :=
  match p[lowB pgK ((IntKind.u64.wrap (Int.tdiv (IntKind.u64.wrap ((IntKind.u64.wrap (a * 16384)) - b)) 4096)) % 4294967296) p]? with
  | none => false
  | some x => hoS b x.f0 == a
def protP (p : List SP) (n : Int) : Int := if has pgK n p = true then look pgK (fun x => x.f1) n p else -1
def lostB (l : List SM) (b : Int) (x : SP) : Bool := mappedS l (hoS b x.f0) != 3
def idleB (p : List SP) (b : Int) (x : SM) : Bool := reachS b (IntKind.u64.wrap (x.f0 * 16384)) && !usedS p b x.f0
def strayB (p : List SP) (b : Int) (x : SC) : Bool := reachS b x.f0 && decide (protP p ((IntKind.u64.wrap (Int.tdiv (IntKind.u64.wrap (x.f0 - b)) 4096)) % 4294967296) < 0)
theorem at_f {p : List SP} (hp : p.length ≤ 1000000) (hr : Rises pgK p) (n : Int) : guest_at.f p n = some (((lowB pgK n p : Nat) : Int), has pgK n p) := by
  unfold guest_at.f
  rw [if_pos ⟨hp, (risesB_iff p).2 hr⟩]
theorem prot_f (l : List SM) (m : List SC) (b : Int) {p : List SP} (hp : p.length ≤ 1000000) (hr : Rises pgK p) (n : Int) : guest_Prot.f l m b p n = some (protP p n) := by
  unfold guest_Prot.f protP
  rw [at_f hp hr, Option.bind_some]
  dsimp only
  cases hh : has pgK n p with
  | false => rw [if_neg (by decide), if_neg (by decide)]
  | true =>
    obtain ⟨hj, h3, h4⟩ := low_hit (val := fun x : SP => x.f1) hr hh
    rw [if_pos rfl, if_pos (by omega), if_pos (by omega), pg_getR hj, if_pos rfl]
    exact congrArg some h4
end Go.Proofs.Ytgkjdpdmmlalcaa.F
end
section
namespace Go.Proofs.Ytgkjdpdmmlalcaa.F
open Go.RowKit Go.Shelf Go.Proofs.YtgkjdpdmmlalcaaW.PrintWords Go.Proofs.YtgkjdpdmmlalcaaW.PrintLast Go.Proofs.YtgkjdpdmmlalcaaW.PrintMore
set_option linter.unusedVariables false
abbrev kM := k83
abbrev kC := k88
theorem kM_heap : Kd.Heap kM := Kd.heap_iso _ (Kd.heap_pair (Kd.heap_int .u64) (Kd.heap_int .i64))
theorem kC_heap : Kd.Heap kC := Kd.heap_iso _ (Kd.heap_pair (Kd.heap_int .u64) (Kd.heap_int .u64))
def HostV (W : World) (v0 v1 : Value) (l : List SM) (m : List SC) : Prop := SlV kM W v0 l ∧ SlV kC W v1 m
theorem HostV.below {W W' : World} {v0 v1 : Value} {l : List SM} {m : List SC} (h : HostV W v0 v1 l m) (hb : Below W.heap.size W W') : HostV W' v0 v1 l m := ⟨h.1.below hb, h.2.below hb⟩
theorem HostV.len {W : World} {v0 v1 : Value} {l : List SM} {m : List SC} (h : HostV W v0 v1 l m) : l.length ≤ 9223372036854775807 ∧ m.length ≤ 9223372036854775807 := by
  obtain ⟨⟨A, c, rfl, hc, hC⟩, ⟨A', c', rfl, hc', hC'⟩⟩ := h
  exact ⟨Kd.C_max hC, Kd.C_max hC'⟩
def RetH (W : World) (l : List SM) (m : List SC) (f : Value → Value) : Ending → World → Prop := fun e w' => ∃ A c A' c', e = .returned (f (.agg #[.slice A l.length c, .slice A' m.length c'])) ∧ HostV w' (.slice A l.length c) (.slice A' m.length c') l m ∧ Below W.heap.size W w'
theorem RetH.of {W w' : World} {l : List SM} {m : List SC} {f : Value → Value} {v0 v1 : Value} {B B' e1 e2 : Nat} {ok ok' : Nat → Prop} {e : Ending} (he : e = .returned (f (.agg #[v0, v1]))) (h0 : Kd.V kM e1 w' B ok v0 l) (h1 : Kd.V kC e2 w' B' ok' v1 m) (hb : Below W.heap.size W w') : RetH W l m f e w' := by
  obtain ⟨A, c, rfl, hc, hC⟩ := SlV.of_view h0
  obtain ⟨A', c', rfl, hc', hC'⟩ := SlV.of_view h1
  exact ⟨A, c, A', c', he, ⟨SlV.mk hC hc, SlV.mk hC' hc'⟩, hb⟩
section
variable {W : World} {v0 v1 : Value} {l : List SM} {m : List SC} {u0 u1 : Value} {l' : List SM} {m' : List SC}
end
theorem blk_new1 (w : World) (o o' : Obj) : ((w.alloc o).alloc o').heap[w.heap.size + 1]? = some o' := by
  have h := blk_new (w.alloc o) o'
  have e : (w.alloc o).heap.size = w.heap.size + 1 := by
    unfold World.alloc
    exact Array.size_push ..
  rwa [e] at h
def okM (x : SM) : Bool := decide ((0 ≤ x.f0 ∧ x.f0 ≤ 18446744073709551615) ∧ ((-9223372036854775808) ≤ x.f1 ∧ x.f1 ≤ 9223372036854775807))
def okC (x : SC) : Bool := decide ((0 ≤ x.f0 ∧ x.f0 ≤ 18446744073709551615) ∧ (0 ≤ x.f1 ∧ x.f1 ≤ 18446744073709551615))
def okH (l : List SM) (m : List SC) : Bool := l.all okM && m.all okC
theorem okH_wf {l : List SM} {m : List SC} (h : okH l m = true) : (∀ x ∈ l, wfM x) ∧ (∀ x ∈ m, wfC x) := by
  unfold okH at h
  rw [Bool.and_eq_true, List.all_eq_true, List.all_eq_true] at h
  refine ⟨fun x hx => ?_, fun x hx => ?_⟩
  · have := h.1 x hx
    unfold okM at this
    have h9 := of_decide_eq_true this
    exact h9
  · have := h.2 x hx
    unfold okC at this
    have h9 := of_decide_eq_true this
    exact h9
theorem okH_of {l : List SM} {m : List SC} (h : ∀ x ∈ l, wfM x) (h2 : ∀ x ∈ m, wfC x) : okH l m = true := by
  unfold okH
  rw [Bool.and_eq_true, List.all_eq_true, List.all_eq_true]
  refine ⟨fun x hx => ?_, fun x hx => ?_⟩
  · unfold okM
    refine decide_eq_true ?_
    exact h x hx
  · unfold okC
    refine decide_eq_true ?_
    exact h2 x hx
end Go.Proofs.Ytgkjdpdmmlalcaa.F
end
section
namespace Go.Proofs.Ytgkjdpdmmlalcaa.F
open Go.RowKit Go.Shelf Go.Proofs.YtgkjdpdmmlalcaaW.PrintWords Go.Proofs.YtgkjdpdmmlalcaaW.PrintLast Go.Proofs.YtgkjdpdmmlalcaaW.PrintMore
set_option linter.unusedVariables false
set_option linter.unusedSimpArgs false
def badPg (p : List SP) (k : Nat) : Bool :=
  match p[k]? with
  | none => false
  | some x => decide (x.f0 ≥ 1048576) || ((Go.bits .andNot .i64 x.f1 7 != 0) || prevGe pgK p k x.f0)
def fpS (p : List SP) : Bool := !((List.range p.length).any (badPg p))
def gfitB (l : List SM) (m : List SC) (b : Int) (p : List SP) : Bool :=
  fitB l m && (!(Int.tmod b 16384 != 0) && (!decide (b > 4611686018427387904) && (!decide ((p.length : Int) > 256) && (fpS p && (!(p.any (lostB l b)) && (!(l.any (idleB p b)) && !(m.any (strayB p b))))))))
-- HAND fn=ferry/guest.Fit ; rounds=0 ; making=1 ; laid=0
end Go.Proofs.Ytgkjdpdmmlalcaa.F
end
section
namespace Go.Proofs.Ytgkjdpdmmlalcaa.F
open Go.RowKit Go.Shelf Go.Proofs.YtgkjdpdmmlalcaaW.PrintWords Go.Proofs.YtgkjdpdmmlalcaaW.PrintLast Go.Proofs.YtgkjdpdmmlalcaaW.PrintMore
set_option linter.unusedVariables false
set_option linter.unusedSimpArgs false
theorem kP_heap : Kd.Heap kP := Kd.heap_iso _ (Kd.heap_pair (Kd.heap_int .u32) (Kd.heap_int .i64))
def inP (x : SP) (a n : Int) : Bool := decide (x.f0 ≥ a) && decide (IntKind.u32.wrap (x.f0 - a) < n)
def delS (p : List SP) (a n : Int) : List SP := p.filter (fun x => !inP x a n)
def RowsG (W : World) (ok : Nat → Prop) (A0 : Option Addr) (c0 : Nat) (A1 : Option Addr) (c1 : Nat) (A3 : Option Addr) (c3 : Nat) (l : List SM) (m : List SC) (p : List SP) : Prop :=
  Kd.V kM 83 W 0 ok (.slice A0 l.length c0) l ∧ Kd.V kC 88 W 0 ok (.slice A1 m.length c1) m ∧ Kd.V kP 41 W 0 ok (.slice A3 p.length c3) p
section
variable {W W' : World} {ok ok' : Nat → Prop} {A0 A1 A3 : Option Addr} {c0 c1 c3 : Nat} {l : List SM} {m : List SC} {p : List SP}
theorem RowsG.below (h : RowsG W ok A0 c0 A1 c1 A3 c3 l m p) (hb : Below W.heap.size W W') : RowsG W' ok A0 c0 A1 c1 A3 c3 l m p := ⟨Kd.V_below h.1 hb, Kd.V_below h.2.1 hb, Kd.V_below h.2.2 hb⟩
theorem RowsG.wide (h : RowsG W ok A0 c0 A1 c1 A3 c3 l m p) (hk : ∀ k, ok k → ok' k) : RowsG W ok' A0 c0 A1 c1 A3 c3 l m p := ⟨Kd.V_mono h.1 hk, Kd.V_mono h.2.1 hk, Kd.V_mono h.2.2 hk⟩
theorem RowsG.move (h : RowsG W ok A0 c0 A1 c1 A3 c3 l m p) (hk : ∀ k, ok k → k < W.heap.size → W'.heap[k]? = W.heap[k]?) : RowsG W' ok A0 c0 A1 c1 A3 c3 l m p := ⟨Kd.V_step h.1 hk, Kd.V_step h.2.1 hk, Kd.V_step h.2.2 hk⟩
theorem RowsG.bound (h : RowsG W ok A0 c0 A1 c1 A3 c3 l m p) : RowsG W (fun k => ok k ∧ k < W.heap.size) A0 c0 A1 c1 A3 c3 l m p := ⟨Kd.V_bound h.1, Kd.V_bound h.2.1, Kd.V_bound h.2.2⟩
theorem RowsG.of (hC : Kd.C kM W A0 l.length l) (hc : l.length ≤ c0) (hD : Kd.C kC W A1 m.length m) (hd : m.length ≤ c1) (hE : Kd.C kP W A3 p.length p) (he : p.length ≤ c3) : RowsG W (fun k => k < W.heap.size) A0 c0 A1 c1 A3 c3 l m p :=
  ⟨Kd.V_mk hc (Kd.C_F kM_heap hC), Kd.V_mk hd (Kd.C_F kC_heap hD), Kd.V_mk he (Kd.C_F kP_heap hE)⟩
theorem RowsG.r0 (h : RowsG W ok A0 c0 A1 c1 A3 c3 l m p) : Kd.C kM W A0 l.length l := (Kd.V_reads' h.1).2.2
theorem RowsG.r1 (h : RowsG W ok A0 c0 A1 c1 A3 c3 l m p) : Kd.C kC W A1 m.length m := (Kd.V_reads' h.2.1).2.2
theorem RowsG.r3 (h : RowsG W ok A0 c0 A1 c1 A3 c3 l m p) : Kd.C kP W A3 p.length p := (Kd.V_reads' h.2.2).2.2
theorem RowsG.n0 (h : RowsG W ok A0 c0 A1 c1 A3 c3 l m p) : l.length ≤ c0 := (Kd.V_reads' h.1).2.1
theorem RowsG.n1 (h : RowsG W ok A0 c0 A1 c1 A3 c3 l m p) : m.length ≤ c1 := (Kd.V_reads' h.2.1).2.1
theorem RowsG.n3 (h : RowsG W ok A0 c0 A1 c1 A3 c3 l m p) : p.length ≤ c3 := (Kd.V_reads' h.2.2).2.1
theorem RowsG.host (h : RowsG W ok A0 c0 A1 c1 A3 c3 l m p) : HostV W (.slice A0 l.length c0) (.slice A1 m.length c1) l m := ⟨SlV.of_view h.1, SlV.of_view h.2.1⟩
theorem RowsG.swap {b0 b1 : Nat} {v0 v1 : Value} {l' : List SM} {m' : List SC} (h : RowsG W ok A0 c0 A1 c1 A3 c3 l m p) (h0 : Kd.V kM 83 W b0 ok v0 l') (h1 : Kd.V kC 88 W b1 ok v1 m') :
    ∃ A c B d, v0 = .slice A l'.length c ∧ v1 = .slice B m'.length d ∧ RowsG W ok A c B d A3 c3 l' m' p := by
  obtain ⟨A, c, rfl, hc, hF⟩ := h0
  obtain ⟨B, d, rfl, hd, hG⟩ := h1
  exact ⟨A, c, B, d, rfl, rfl, Kd.V_mk hc hF, Kd.V_mk hd hG, h.2.2⟩
def OwnP (W : World) (B : Nat) (A : Option Addr) (c : Nat) (p : List SP) : Prop := (A = none ∧ c = 0 ∧ p = []) ∨ ∃ g, A = some ⟨g, 0, none⟩ ∧ B ≤ g ∧ OwnB pgE 41 W g c p
theorem OwnP.of {v : Value} {B : Nat} {ok : Nat → Prop} (h : Kd.R kP 41 W B ok v p) : ∃ A c, v = .slice A p.length c ∧ OwnP W B A c p := by
  rcases pg_own h with ⟨rfl, rfl⟩ | ⟨g, cap, rfl, hg, ho⟩
  · exact ⟨none, 0, rfl, .inl ⟨rfl, rfl, rfl⟩⟩
  · exact ⟨_, cap, rfl, .inr ⟨g, rfl, hg, ho⟩⟩
theorem OwnP.R {A : Option Addr} {c B : Nat} (h : OwnP W B A c p) : Kd.R kP 41 W B (fun _ => True) (.slice A p.length c) p := by
  rcases h with ⟨rfl, rfl, rfl⟩ | ⟨g, rfl, hg, ho⟩
  · exact Kd.R_nil _ _ _ _ _
  · exact pg_R ho hg
theorem OwnP.move {A : Option Addr} {c B : Nat} (h : OwnP W B A c p) (hk : ∀ k, B ≤ k → k < W.heap.size → W'.heap[k]? = W.heap[k]?) : OwnP W' B A c p := by
  rcases h with h | ⟨g, e, hg, ho⟩
  · exact .inl h
  · exact .inr ⟨g, e, hg, ho.move (hk g hg ho.lt)⟩
def RowsH (W : World) (ok : Nat → Prop) (A0 : Option Addr) (c0 : Nat) (A1 : Option Addr) (c1 : Nat) (l : List SM) (m : List SC) : Prop := Kd.V kM 83 W 0 ok (.slice A0 l.length c0) l ∧ Kd.V kC 88 W 0 ok (.slice A1 m.length c1) m
theorem RowsG.rows (h : RowsG W ok A0 c0 A1 c1 A3 c3 l m p) : RowsH W ok A0 c0 A1 c1 l m := ⟨h.1, h.2.1⟩
theorem RowsH.below (h : RowsH W ok A0 c0 A1 c1 l m) (hb : Below W.heap.size W W') : RowsH W' ok A0 c0 A1 c1 l m := ⟨Kd.V_below h.1 hb, Kd.V_below h.2 hb⟩
theorem RowsH.wide (h : RowsH W ok A0 c0 A1 c1 l m) (hk : ∀ k, ok k → ok' k) : RowsH W ok' A0 c0 A1 c1 l m := ⟨Kd.V_mono h.1 hk, Kd.V_mono h.2 hk⟩
theorem RowsH.move (h : RowsH W ok A0 c0 A1 c1 l m) (hk : ∀ k, ok k → k < W.heap.size → W'.heap[k]? = W.heap[k]?) : RowsH W' ok A0 c0 A1 c1 l m := ⟨Kd.V_step h.1 hk, Kd.V_step h.2 hk⟩
theorem RowsH.bound (h : RowsH W ok A0 c0 A1 c1 l m) : RowsH W (fun k => ok k ∧ k < W.heap.size) A0 c0 A1 c1 l m := ⟨Kd.V_bound h.1, Kd.V_bound h.2⟩
theorem RowsH.swap {b0 b1 : Nat} {v0 v1 : Value} {l' : List SM} {m' : List SC} (h0 : Kd.V kM 83 W b0 ok v0 l') (h1 : Kd.V kC 88 W b1 ok v1 m') :
    ∃ A c B d, v0 = .slice A l'.length c ∧ v1 = .slice B m'.length d ∧ RowsH W ok A c B d l' m' := by
  obtain ⟨A, c, rfl, hc, hF⟩ := h0
  obtain ⟨B, d, rfl, hd, hG⟩ := h1
  exact ⟨A, c, B, d, rfl, rfl, Kd.V_mk hc hF, Kd.V_mk hd hG⟩
end
end Go.Proofs.Ytgkjdpdmmlalcaa.F
end
section
namespace Go.Proofs.Ytgkjdpdmmlalcaa.F
open Go.RowKit Go.Shelf Go.Proofs.YtgkjdpdmmlalcaaW.PrintWords Go.Proofs.YtgkjdpdmmlalcaaW.PrintLast Go.Proofs.YtgkjdpdmmlalcaaW.PrintMore
set_option linter.unusedVariables false
set_option linter.unusedSimpArgs false
def Flat {α : Type} (d : Kd α) : Prop := ∀ (W W' : World) (x : α) (c : List Value), d.K W x c → d.K W' x c
theorem kM_flat : Flat kM := fun _ _ _ _ h => h
theorem kC_flat : Flat kC := fun _ _ _ _ h => h
def IsC (W : World) (k : Nat) : Prop := ∃ cs t f, W.heap[k]? = some (.cells cs t f)
theorem isC_of_cell {W : World} {a : Addr} {u : Value} (h : W.cell? a = some u) : IsC W a.block := by
  unfold World.cell? at h
  cases hb : W.heap[a.block]? with
  | none => rw [hb] at h; cases h
  | some o =>
    rw [hb] at h
    cases o with
    | cells cs t f => exact ⟨cs, t, f, hb⟩
    | _ => cases h
theorem gadd_block (a : Addr) (n : Nat) : (a.add n).block = a.block := by unfold Addr.add; split <;> rfl
theorem C_block {α : Type} {d : Kd α} {W : World} {p : Addr} {n : Nat} {xs : List α} (h : Kd.C d W (some p) n xs) (hs : 0 < d.sz) (hn : 0 < n) : IsC W p.block := by
  obtain ⟨ad, e, hc⟩ := h.2.2 hn
  obtain rfl := Option.some.inj e
  have hl := h.1
  obtain ⟨c, hcl, _, hcell⟩ := hc 0 _ (List.getElem?_eq_getElem (by omega))
  exact gadd_block p (0 * d.sz + 0) ▸ isC_of_cell (hcell 0 c[0] (List.getElem?_eq_getElem (by omega)))
theorem C_same {α : Type} {d : Kd α} (hf : Flat d) {W W' : World} {A : Option Addr} {n : Nat} {xs : List α} (h : Kd.C d W A n xs) (hA : ∀ p, A = some p → 0 < n → W'.heap[p.block]? = W.heap[p.block]?) : Kd.C d W' A n xs := by
  refine ⟨h.1, h.2.1, fun hn => ?_⟩
  obtain ⟨ad, e, hc⟩ := h.2.2 hn
  refine ⟨ad, e, fun j p hj => ?_⟩
  obtain ⟨c, h1, h2, h3⟩ := hc j p hj
  exact ⟨c, h1, hf _ _ _ _ h2, fun i u hu => (World.cell?_of_block (a := ad.add (j * d.sz + i)) (by rw [gadd_block]; exact hA ad e hn)).trans (h3 i u hu)⟩
theorem F_in {α : Type} {d : Kd α} {W : World} {ok : Nat → Prop} {p : Addr} {n : Nat} {xs : List α} (h : Kd.F d W ok (some p) n xs) (hs : 0 < d.sz) (hn : 0 < n) : ok p.block := by
  refine Classical.byContradiction (fun hno => ?_)
  have h1 := h (W.putObj p.block (.deferred none)) (fun k hk _ => World.putObj_heap_other (fun e => hno (e ▸ hk)))
  obtain ⟨cs, t, f, h2⟩ := C_block h1 hs hn
  unfold World.putObj at h2
  rw [Array.getElem?_setIfInBounds_self] at h2
  split at h2 <;> cases h2
theorem F_cells {α : Type} {d : Kd α} (hf : Flat d) (hs : 0 < d.sz) {W : World} {ok : Nat → Prop} {A : Option Addr} {n : Nat} {xs : List α} (h : Kd.F d W ok A n xs) : Kd.F d W (fun k => ok k ∧ IsC W k) A n xs := fun W' hW =>
  C_same hf (Kd.F_now h) (fun p e hn => by
    subst e
    have hc := C_block (Kd.F_now h) hs hn
    obtain ⟨cs, t, f, h2⟩ := hc
    exact hW p.block ⟨F_in h hs hn, ⟨cs, t, f, h2⟩⟩ (sblk_lt h2))
theorem V_cells {α : Type} {d : Kd α} (hf : Flat d) (hs : 0 < d.sz) {e B : Nat} {W : World} {ok : Nat → Prop} {v : Value} {xs : List α} (h : Kd.V d e W B ok v xs) : Kd.V d e W B (fun k => ok k ∧ IsC W k) v xs := by
  obtain ⟨A, c, ev, hc, hF⟩ := h
  exact ⟨A, c, ev, hc, F_cells hf hs hF⟩
theorem RowsH.own {W W' : World} {ok : Nat → Prop} {A0 A1 : Option Addr} {c0 c1 : Nat} {l : List SM} {m : List SC} {row : Option Nat} (h : RowsH W ok A0 c0 A1 c1 l m) (hg : W.grownBy W' row) (hr : ∀ r, row = some r → ∃ o : Obj, W.heap[r]? = some o ∧ o.isCells = false) : RowsH W' ok A0 c0 A1 c1 l m := by
  have h2 : RowsH W (fun k => ok k ∧ IsC W k) A0 c0 A1 c1 l m := ⟨V_cells kM_flat (by decide) h.1, V_cells kC_flat (by decide) h.2⟩
  refine (h2.move (fun k hk hlt => hg.block k hlt (fun e => ?_))).wide (fun k hk => hk.1)
  obtain ⟨o, ho, hc⟩ := hr k e.symm
  obtain ⟨cs, t, f, h3⟩ := hk.2
  rw [h3] at ho
  cases ho
  cases hc
theorem blk_own {W W' : World} {row : Option Nat} {b : Nat} {cs : Array Value} {t : TypeId} {f : Nat × Nat} (h : W.heap[b]? = some (.cells cs t f)) (hg : W.grownBy W' row) (hr : ∀ r, row = some r → ∃ o : Obj, W.heap[r]? = some o ∧ o.isCells = false) : W'.heap[b]? = some (.cells cs t f) := by
  refine (hg.block b (sblk_lt h) (fun e => ?_)).trans h
  obtain ⟨o, ho, hc⟩ := hr b e.symm
  rw [h] at ho
  cases ho
  cases hc
set_option maxHeartbeats 4000000 in
theorem gPlace_any.calls (A0 : Option Addr) (n0 c0 : Nat) (A1 : Option Addr) (n1 c1 : Nat) (b : Int) (A3 : Option Addr) (n3 c3 : Nat) (a : Int) (w : World) :
    Calls Try.prog 75 #[.agg #[.slice A0 n0 c0, .slice A1 n1 c1, .int .u64 b, .slice A3 n3 c3], .int .u32 a] w fun e w' => e = .returned (.int .u64 (IntKind.u64.wrap (b + IntKind.u64.wrap a))) ∧ Below w.heap.size w w' := by
  have hu := Try.underlying29
  have HB := Lib.hid (below_new w (.cells #[.slice A0 n0 c0, .slice A1 n1 c1, .int .u64 b, .slice A3 n3 c3] 29))
  have q := (sblk_cell (blk_new w (.cells #[.slice A0 n0 c0, .slice A1 n1 c1, .int .u64 b, .slice A3 n3 c3] 29)) 2).trans rfl
  go_enter Try.func75, Try.ntmps75
  go_wp2
  go_ret
  exact ⟨rfl, HB.out⟩
def hostsL (lo hi : Int) : List Int := (List.range (hi + 1 - lo).toNat).map (fun (i : Nat) => lo + (i : Int))
def HInv (gw B0 B1 B2 : Nat) (b first n : Int) (W : World) : Prop :=
  W.heap[B0]? = some (.cells #[.pointer (some ⟨gw, 0, none⟩)] 133 (0, 0)) ∧ W.heap[B1]? = some (.cells #[.int .u32 first] 30 (0, 0)) ∧ W.heap[B2]? = some (.cells #[.int .u32 n] 30 (0, 0)) ∧
  ∃ A0 n0 c0 A1 n1 c1 A3 n3 c3, W.heap[gw]? = some (.cells #[.slice A0 n0 c0, .slice A1 n1 c1, .int .u64 b, .slice A3 n3 c3] 135 (0, 0))
theorem HInv.below {gw B0 B1 B2 : Nat} {b first n : Int} {W W' : World} (h : HInv gw B0 B1 B2 b first n W) (hb : Below W.heap.size W W') : HInv gw B0 B1 B2 b first n W' := by
  obtain ⟨h0, h1, h2, A0, n0, c0, A1, n1, c1, A3, n3, c3, h3⟩ := h
  exact ⟨blk_below h0 hb, blk_below h1 hb, blk_below h2 hb, A0, n0, c0, A1, n1, c1, A3, n3, c3, blk_below h3 hb⟩
theorem HInv.own {gw B0 B1 B2 : Nat} {b first n : Int} {W W' : World} {row : Option Nat} (h : HInv gw B0 B1 B2 b first n W) (hg : W.grownBy W' row) (hr : ∀ r, row = some r → ∃ o : Obj, W.heap[r]? = some o ∧ o.isCells = false) : HInv gw B0 B1 B2 b first n W' := by
  obtain ⟨h0, h1, h2, A0, n0, c0, A1, n1, c1, A3, n3, c3, h3⟩ := h
  exact ⟨blk_own h0 hg hr, blk_own h1 hg hr, blk_own h2 hg hr, A0, n0, c0, A1, n1, c1, A3, n3, c3, blk_own h3 hg hr⟩
end Go.Proofs.Ytgkjdpdmmlalcaa.F
end
section
namespace Go.Proofs.Ytgkjdpdmmlalcaa.F
open Go.RowKit Go.Shelf Go.Proofs.YtgkjdpdmmlalcaaW.PrintWords Go.Proofs.YtgkjdpdmmlalcaaW.PrintLast Go.Proofs.YtgkjdpdmmlalcaaW.PrintMore
set_option linter.unusedVariables false
set_option linter.unusedSimpArgs false
attribute [local go_sem] Oper.semAt_some
def kindS (p : List SP) (need x : Int) : Int := if x < 4294967296 then (if protP p (x / 4096 % 4294967296) < 0 then 1 else if Go.bits .and .i64 (protP p (x / 4096 % 4294967296)) need = need then 0 else 2) else 1
def spanL (a n : Int) : List Int := (List.range n.toNat).map (fun (i : Nat) => a + (i : Int))
theorem spanL_len (a n : Int) : (spanL a n).length = n.toNat := by simp [spanL]
theorem spanL_take (a n : Int) (k : Nat) (h : k < n.toNat) : (spanL a n).take (k + 1) = (spanL a n).take k ++ [a + (k : Int)] := by
  rw [List.take_succ_eq_append_getElem (by rw [spanL_len]; exact h)]
  congr 2
  simp [spanL]
theorem spanL_mod {a n : Int} (h0 : 0 ≤ a) (h1 : a + n ≤ 18446744073709551616) : ∀ x ∈ spanL a n, x % 18446744073709551616 = x := by
  intro x hx
  simp only [spanL, List.mem_map, List.mem_range] at hx
  obtain ⟨i, hi, rfl⟩ := hx
  omega
structure GRead (w0 : World) (A0 : Option Addr) (c0 : Nat) (l0 : List SM) (A1 : Option Addr) (c1 : Nat) (l1 : List SC) (A3 : Option Addr) (c3 : Nat) (p : List SP) : Prop where
  r0 : Kd.C kM w0 A0 l0.length l0
  n0 : l0.length ≤ c0
  r1 : Kd.C kC w0 A1 l1.length l1
  n1 : l1.length ≤ c1
  r3 : Kd.C kP w0 A3 p.length p
  n3 : p.length ≤ c3
  lp : p.length ≤ 1000000
  rp : Rises pgK p
structure SInv (w0 : World) (B1 B2 B3 B4 : Nat) (gv : Array Value) (a n need : Int) (W : World) : Prop where
  bel : Below w0.heap.size w0 W
  b1 : W.heap[B1]? = some (.cells #[.int .u32 a] 30 (0, 0))
  b2 : W.heap[B2]? = some (.cells #[.int .i64 n] 3 (0, 0))
  b3 : W.heap[B3]? = some (.cells gv 29 (0, 0))
  b4 : W.heap[B4]? = some (.cells #[.int .i64 need] 3 (0, 0))
theorem SInv.below {w0 : World} {B1 B2 B3 B4 : Nat} {gv : Array Value} {a n need : Int} {W W' : World} (h : SInv w0 B1 B2 B3 B4 gv a n need W) (hb : Below W.heap.size W W') : SInv w0 B1 B2 B3 B4 gv a n need W' :=
  ⟨h.bel.trans (hb.mono h.bel.size), blk_below h.b1 hb, blk_below h.b2 hb, blk_below h.b3 hb, blk_below h.b4 hb⟩
theorem SInv.own {w0 : World} {B1 B2 B3 B4 : Nat} {gv : Array Value} {a n need : Int} {W W' : World} {row : Option Nat} (h : SInv w0 B1 B2 B3 B4 gv a n need W) (hg : W.grownBy W' row) (hr : ∀ r, row = some r → w0.heap.size ≤ r ∧ ∃ o : Obj, W.heap[r]? = some o ∧ o.isCells = false) : SInv w0 B1 B2 B3 B4 gv a n need W' :=
  ⟨h.bel.grown hg h.bel.size (fun k e => (hr k e).1), blk_own h.b1 hg (fun r e => (hr r e).2), blk_own h.b2 hg (fun r e => (hr r e).2), blk_own h.b3 hg (fun r e => (hr r e).2), blk_own h.b4 hg (fun r e => (hr r e).2)⟩
set_option maxHeartbeats 8000000 in
set_option maxRecDepth 100000 in
theorem gSpan1_any (w0 : World) (l B1 B2 B3 B4 : Nat) (A0 : Option Addr) (c0 : Nat) (l0 : List SM) (A1 : Option Addr) (c1 : Nat) (l1 : List SC) (b : Int) (A3 : Option Addr) (c3 : Nat) (p : List SP) (a n need : Int)
    (hG : GRead w0 A0 c0 l0 A1 c1 l1 A3 c3 p) (ha : 0 ≤ a) (ha2 : a < 4294967296) (hn : 0 ≤ n) (hn2 : n < 4294967296) (J Jx : List Int → World → Prop) (m : Nat)
    (hY : ∀ pre x W, J pre W → pre.length < n.toNat → 0 ≤ x → x < 18446744073709551616 → YieldAt Fence.wide (m - 1) Try.prog l #[.int .u64 x, .int .i64 (kindS p need x)] W fun e W' =>
      (e = .returned (.bool true) ∧ J (pre ++ [x]) W' ∧ (SInv w0 B1 B2 B3 B4 #[.slice A0 l0.length c0, .slice A1 l1.length c1, .int .u64 b, .slice A3 p.length c3] a n need W → SInv w0 B1 B2 B3 B4 #[.slice A0 l0.length c0, .slice A1 l1.length c1, .int .u64 b, .slice A3 p.length c3] a n need W')) ∨ (e = .returned (.bool false) ∧ Jx (pre ++ [x]) W'))
    (W : World) (hI : SInv w0 B1 B2 B3 B4 #[.slice A0 l0.length c0, .slice A1 l1.length c1, .int .u64 b, .slice A3 p.length c3] a n need W) (hJ : AbidesFrom W.heap.size J) (h0 : J [] W) :
    CallsIn Fence.wide m Try.prog 85 #[.func (.yield l) #[] #[], .pointer (some ⟨B1, 0, none⟩), .pointer (some ⟨B2, 0, none⟩), .pointer (some ⟨B3, 0, none⟩), .pointer (some ⟨B4, 0, none⟩)] W fun e W' => (∃ v, e = .returned v) ∧
      ((∃ ys, ys = spanL a n ∧ J ys W') ∨ (∃ pre, pre <+: spanL a n ∧ Jx pre W')) := by
  have hu2 := Try.underlying29
  have hu3 := Try.underlying25
  have PR := Lib.hid (fun W (hB : Below w0.heap.size w0 W) (x : Int) => guest_Prot.calls A0 c0 l0 A1 c1 l1 b A3 c3 p x _ W (Kd.C_below hG.r0 hB) hG.n0 (Kd.C_below hG.r1 hB) hG.n1 (Kd.C_below hG.r3 hB) hG.n3 (prot_f l0 l1 b hG.lp hG.rp x))
  have JJ := Lib.hid (fun s (W1 W2 : World) (hj : J s W1) (hb : Below W1.heap.size W1 W2) => hJ s W1 W2 none hj (grown_of_below hb) (fun r e => by cases e))
  have HY := Lib.hid hY
  have HI := Lib.hid hI
  have HJ0 := Lib.hid h0
  have NA := Lib.hid (And.intro ha ha2)
  have NN := Lib.hid (And.intro hn hn2)
  clear hY hJ hI h0 hG ha ha2 hn hn2
  have ea : IntKind.u64.wrap a = a := by
    have := NA.out
    simp [IntKind.wrap, IntKind.bits, IntKind.signed]
    omega
  have en : IntKind.u64.wrap n = n := by
    have := NN.out
    simp [IntKind.wrap, IntKind.bits, IntKind.signed]
    omega
  have ean : IntKind.u64.wrap (a + n) = a + n := by
    have := NA.out
    have := NN.out
    simp [IntKind.wrap, IntKind.bits, IntKind.signed]
    omega
  refine callsIn_of_wp Try.func85 rfl trivial ?_ rfl
  simp only [Try.ntmps85, List.size_toArray, List.length_cons, List.length_nil, Nat.reduceAdd, Nat.reduceSub, Array.replicate_succ, Array.replicate_zero, List.push_toArray, List.append_toArray, List.nil_append, List.cons_append]
  have g1 := (sblk_cell HI.out.b1 0).trans rfl
  gi_wp2
  gi_loopw [6] (fun p wr => ∃ k : Nat, p = .int .u64 (a + (k : Int)) ∧ k ≤ n.toNat ∧ J ((spanL a n).take k) wr ∧ SInv w0 B1 B2 B3 B4 #[.slice A0 l0.length c0, .slice A1 l1.length c1, .int .u64 b, .slice A3 _ c3] a n need wr) (fun p wr => (a + n - (intOf p)).toNat)
  case atStart => exact ⟨0, by simp, Nat.zero_le _, HJ0.out, HI.out⟩
  case round =>
    obtain ⟨k, rfl, hk, hJk, hIk⟩ := hrel
    clear g1 HJ0 HI
    have HI := Lib.hid hIk
    have HJ := Lib.hid hJk
    clear hIk hJk
    have q1 := (sblk_cell HI.out.b1 0).trans rfl
    have q2 := (sblk_cell HI.out.b2 0).trans rfl
    have q3_0 := (sblk_cell HI.out.b3 0).trans rfl
    have q3_1 := (sblk_cell HI.out.b3 1).trans rfl
    have q3_2 := (sblk_cell HI.out.b3 2).trans rfl
    have q3_3 := (sblk_cell HI.out.b3 3).trans rfl
    by_cases hlt : k < n.toNat
    · have hd := decide_eq_true (show (k : Int) < n by omega)
      have HT := Lib.hid (spanL_take a n k hlt)
      have HK := Lib.hid hlt
      by_cases hx : a + (k : Int) < 4294967296
      · have hd2 := decide_eq_true hx
        have HX := Lib.hid hx
        have HE := Lib.hid (show IntKind.u64.wrap ((a + (k : Int)).tdiv 4096) % 4294967296 = (a + (k : Int)) / 4096 % 4294967296 by
          have := NA.out
          rw [Int.tdiv_eq_ediv_of_nonneg (by omega)]
          simp only [IntKind.wrap, IntKind.bits, IntKind.signed]
          simp
          try omega)
        clear hlt hx hk
        gi_wp2_with (fail)
        refine ⟨trivial, (fun h => by cases h), ?_⟩
        rw [HE.out]
        refine (callsIn_wide.2 (PR.out wr HI.out.bel ((a + (k : Int)) / 4096 % 4294967296))).mono ?_
        rintro e W1 ⟨rfl, hb⟩
        have HI1 := Lib.hid (HI.out.below hb)
        have HJ1 := Lib.hid (JJ.out _ _ _ HJ.out hb)
        clear HI HJ q1 q2 q3_0 q3_1 q3_2 q3_3 hb
        have q4 := (sblk_cell HI1.out.b4 0).trans rfl
        have hS : kindS p need (a + (k : Int)) = if protP p ((a + (k : Int)) / 4096 % 4294967296) < 0 then 1 else if Go.bits .and .i64 (protP p ((a + (k : Int)) / 4096 % 4294967296)) need = need then 0 else 2 := by
          unfold kindS
          rw [if_pos HX.out]
        generalize protP p ((a + (k : Int)) / 4096 % 4294967296) = q at hS ⊢
        clear hd2
        have hq : (decide (q < 0) = true ∧ kindS p need (a + (k : Int)) = 1) ∨ (decide (q < 0) = false ∧ (Go.bits .and .i64 q need != need) = true ∧ kindS p need (a + (k : Int)) = 2) ∨ (decide (q < 0) = false ∧ (Go.bits .and .i64 q need != need) = false ∧ kindS p need (a + (k : Int)) = 0) := by
          rw [hS]
          by_cases h1 : q < 0
          · exact .inl ⟨decide_eq_true h1, if_pos h1⟩
          rw [if_neg h1]
          by_cases h2 : Go.bits .and .i64 q need = need
          · exact .inr (.inr ⟨decide_eq_false h1, by rw [h2]; simp, if_pos h2⟩)
          exact .inr (.inl ⟨decide_eq_false h1, by simpa using h2, if_neg h2⟩)
        clear hS
        rcases hq with ⟨hb1, hκ⟩ | ⟨hb1, hb2, hκ⟩ | ⟨hb1, hb2, hκ⟩
        all_goals (
          obtain ⟨fn, tmps, assign, body, hy, hR⟩ := HY.out _ (a + (k : Int)) W1 HJ1.out (by rw [List.length_take, spanL_len]; have := HK.out; omega) (by have := NA.out; omega) (by have := NA.out; have := NN.out; have := HK.out; omega)
          rw [hκ] at hy
          clear hκ
          gi_wp2
          refine ⟨(fun h => by cases h), hR.mono ?_⟩
          rintro e W3 (⟨rfl, hJ3, hk3⟩ | ⟨rfl, hJx3⟩)
          · have HI3 := Lib.hid (hk3 HI1.out)
            have HJ3 := Lib.hid hJ3
            clear hk3 hJ3 hR hy
            have HW := Lib.hid (show IntKind.u64.wrap (a + (k : Int) + 1) = a + ((k + 1 : Nat) : Int) by
              have h1 := NA.out
              have h2 := NN.out
              have h3 := HK.out
              simp [IntKind.wrap, IntKind.bits, IntKind.signed]
              omega)
            gi_wp2
            go_roundw
            case rel => exact ⟨k + 1, by rw [HW.out], HK.out, by rw [HT.out]; exact HJ3.out, HI3.out⟩
            case measure =>
              have h1 := HK.out
              have h2 := HW.out
              rw [h2]
              simp [intOf]
              omega
          · gi_wp2
            refine bodyPost_ret (results_none rfl _ _ _) rfl ?_
            exact ⟨⟨_, rfl⟩, .inr ⟨_, ⟨(spanL a n).drop (k + 1), by rw [← HT.out, List.take_append_drop]⟩, hJx3⟩⟩)
      have hd2 := decide_eq_false hx
      have hκ : kindS p need (a + (k : Int)) = 1 := by
        unfold kindS
        rw [if_neg hx]
      clear hlt hx hk
      (
        obtain ⟨fn, tmps, assign, body, hy, hR⟩ := HY.out _ (a + (k : Int)) wr HJ.out (by rw [List.length_take, spanL_len]; have := HK.out; omega) (by have := NA.out; omega) (by have := NA.out; have := NN.out; have := HK.out; omega)
        rw [hκ] at hy
        clear hκ
        gi_wp2
        refine ⟨(fun h => by cases h), hR.mono ?_⟩
        rintro e W3 (⟨rfl, hJ3, hk3⟩ | ⟨rfl, hJx3⟩)
        · have HI3 := Lib.hid (hk3 HI.out)
          have HJ3 := Lib.hid hJ3
          clear hk3 hJ3 hR hy
          have HW := Lib.hid (show IntKind.u64.wrap (a + (k : Int) + 1) = a + ((k + 1 : Nat) : Int) by
            have h1 := NA.out
            have h2 := NN.out
            have h3 := HK.out
            simp [IntKind.wrap, IntKind.bits, IntKind.signed]
            omega)
          gi_wp2
          go_roundw
          case rel => exact ⟨k + 1, by rw [HW.out], HK.out, by rw [HT.out]; exact HJ3.out, HI3.out⟩
          case measure =>
            have h1 := HK.out
            have h2 := HW.out
            rw [h2]
            simp [intOf]
            omega
        · gi_wp2
          refine bodyPost_ret (results_none rfl _ _ _) rfl ?_
          exact ⟨⟨_, rfl⟩, .inr ⟨_, ⟨(spanL a n).drop (k + 1), by rw [← HT.out, List.take_append_drop]⟩, hJx3⟩⟩)
    have hd := decide_eq_false (show ¬ (k : Int) < n by omega)
    have e : k = n.toNat := by omega
    have HJ2 : Hid (J (spanL a n) wr) := by
      have h := HJ.out
      rw [e, List.take_of_length_le (by rw [spanL_len]; exact Nat.le_refl _)] at h
      exact h
    clear HJ e hlt hk
    gi_wp2
    go_end0
    exact ⟨⟨_, rfl⟩, .inl ⟨_, rfl, HJ2.out⟩⟩
theorem gSpan_stops (m : Nat) (w0 : World) (B1 B2 B3 B4 : Nat) (A0 : Option Addr) (c0 : Nat) (l0 : List SM) (A1 : Option Addr) (c1 : Nat) (l1 : List SC) (b : Int) (A3 : Option Addr) (c3 : Nat) (p : List SP) (a n need : Int)
    (hG : GRead w0 A0 c0 l0 A1 c1 l1 A3 c3 p) (ha : 0 ≤ a) (ha2 : a < 4294967296) (hn : 0 ≤ n) (hn2 : n < 4294967296) (w : World) (hI : SInv w0 B1 B2 B3 B4 #[.slice A0 l0.length c0, .slice A1 l1.length c1, .int .u64 b, .slice A3 p.length c3] a n need w) :
    SeqStopsK Fence.wide m Try.prog 85 #[.pointer (some ⟨B1, 0, none⟩), .pointer (some ⟨B2, 0, none⟩), .pointer (some ⟨B3, 0, none⟩), .pointer (some ⟨B4, 0, none⟩)] (fun x : Int => #[.int .u64 (x % 18446744073709551616), .int .i64 (kindS p need (x % 18446744073709551616))])
      (fun W W' => SInv w0 B1 B2 B3 B4 #[.slice A0 l0.length c0, .slice A1 l1.length c1, .int .u64 b, .slice A3 p.length c3] a n need W → SInv w0 B1 B2 B3 B4 #[.slice A0 l0.length c0, .slice A1 l1.length c1, .int .u64 b, .slice A3 p.length c3] a n need W') (fun xs => xs = spanL a n) (fun pre => pre <+: spanL a n) n.toNat w :=
  fun l J Jx W hW hJ _ hY h0 => gSpan1_any w0 l B1 B2 B3 B4 A0 c0 l0 A1 c1 l1 b A3 c3 p a n need hG ha ha2 hn hn2 J Jx m (fun pre x W hj hl x0 x1 => by have h := hY pre x W hj hl; dsimp only at h; rwa [Int.emod_eq_of_lt x0 x1] at h) W (hI.below hW) hJ h0
theorem sinv_b {w0 : World} {B1 B2 B3 B4 : Nat} {gv : Array Value} {a n need : Int} {w : World} (hw : w0.heap.size ≤ w.heap.size) (W : World) (l : Nat) (o o' : Obj) (h0 : w.heap.size ≤ l) (hl : W.heap[l]? = some o) (hc : o.isCells = false) (_ : o.isWalk = false) : SInv w0 B1 B2 B3 B4 gv a n need W → SInv w0 B1 B2 B3 B4 gv a n need (W.putObj l o') :=
  fun h => h.own (grownBy_putObj' W l o') (fun r e => by cases e; exact ⟨Nat.le_trans hw h0, o, hl, hc⟩)
theorem gSpan.calls (gv : Array Value) (hgv : ∃ v0 v1 v2 v3 : Value, gv = #[v0, v1, v2, v3] ∧ True) (a n need : Int) (w : World) :
    Calls Try.prog 57 #[.agg gv, .int .u32 a, .int .i64 n, .int .i64 need] w fun e w' => e = .returned (.func (.func 85) #[] #[.pointer (some ⟨w.heap.size + 1, 0, none⟩), .pointer (some ⟨w.heap.size + 1 + 1, 0, none⟩), .pointer (some ⟨w.heap.size, 0, none⟩), .pointer (some ⟨w.heap.size + 1 + 1 + 1, 0, none⟩)]) ∧
      w' = (((w.alloc (.cells gv 29)).alloc (.cells #[.int .u32 a] 30)).alloc (.cells #[.int .i64 n] 3)).alloc (.cells #[.int .i64 need] 3) := by
  have hu2 := Try.underlying29
  obtain ⟨v0, v1, v2, v3, rfl, _⟩ := hgv
  go_enter Try.func57, Try.ntmps57
  go_wp2
  go_ret
  exact ⟨rfl, rfl⟩
end Go.Proofs.Ytgkjdpdmmlalcaa.F
end
section
namespace Go.Proofs.Ytgkjdpdmmlalcaa.F
open Go.RowKit Go.Shelf Go.Proofs.YtgkjdpdmmlalcaaW.PrintWords Go.Proofs.YtgkjdpdmmlalcaaW.PrintLast Go.Proofs.YtgkjdpdmmlalcaaW.PrintMore
set_option linter.unusedVariables false
set_option linter.unusedSimpArgs false
attribute [local go_sem] Oper.semAt_some
def firstS (p : List SP) (a n need : Int) : Int × Int := match (spanL a n).find? (fun x => decide (kindS p need x ≠ 0)) with
  | some x => (kindS p need x, x)
  | none => (0, 0)
def okSp (p : List SP) (a n : Int) : Bool := risesB pgK p && decide (p.length ≤ 1000000 ∧ 0 ≤ a ∧ a < 4294967296 ∧ 0 ≤ n ∧ n < 4294967296)
theorem okSp_iff {p : List SP} {a n : Int} : okSp p a n = true ↔ Rises pgK p ∧ p.length ≤ 1000000 ∧ 0 ≤ a ∧ a < 4294967296 ∧ 0 ≤ n ∧ n < 4294967296 := by
  unfold okSp
  rw [Bool.and_eq_true, decide_eq_true_iff, risesB_iff]
theorem firstS_none {p : List SP} {a n need : Int} (h : ∀ x ∈ spanL a n, kindS p need x = 0) : firstS p a n need = (0, 0) := by
  unfold firstS
  rw [List.find?_eq_none.2 (fun x hx => by rw [h x hx]; decide)]
theorem firstS_some {p : List SP} {a n need x : Int} {pre : List Int} (hp : pre ++ [x] <+: spanL a n) (h : ∀ y ∈ pre, kindS p need y = 0) (hx : kindS p need x ≠ 0) : firstS p a n need = (kindS p need x, x) := by
  obtain ⟨l, hl⟩ := hp
  unfold firstS
  rw [← hl, List.append_assoc, List.find?_append, List.find?_eq_none.2 (fun y hy => by rw [h y hy]; decide)]
  simp [hx]
-- HAND fn=ferry/gmem.first ; rounds=0 ; making=1 ; laid=0
def gmem_first.f (l0 : List SM) (l1 : List SC) (b : Int) (p : List SP) (a n need : Int) : Option (Int × Int) := if okSp p a n = true then some (firstS p a n need) else none
structure FirI (w : World) (B1 B2 B3 B4 : Nat) (gv : Array Value) (a n need : Int) (p : List SP) (pre : List Int) (W : World) : Prop where
  z : ∀ x ∈ pre, kindS p need (x % 18446744073709551616) = 0
  s : SInv w B1 B2 B3 B4 gv a n need W
  f : W.heap[w.heap.size + 1]? = some (.cells #[.int .i64 0, .int .u64 0] 34 (0, 0))
def FirX (w : World) (p : List SP) (need : Int) (c : Code) (pre : List Int) (W : World) : Prop :=
  c = .exit 0 ∧ ∃ pre' x, pre = pre' ++ [x] ∧ (∀ y ∈ pre', kindS p need (y % 18446744073709551616) = 0) ∧ kindS p need (x % 18446744073709551616) ≠ 0 ∧ Below w.heap.size w W ∧
    W.heap[w.heap.size + 1]? = some (.cells #[.int .i64 (kindS p need (x % 18446744073709551616)), .int .u64 (x % 18446744073709551616)] 34 (0, 0))
theorem blk_nw2 (w : World) (o o' o'' : Obj) : (((w.alloc o).alloc o').alloc o'').heap[w.heap.size + 1 + 1]? = some o'' := by
  have h := blk_new1 (w.alloc o) o' o''
  rwa [World.size_alloc] at h
theorem blk_nw3 (w : World) (o o' o'' o3 : Obj) : ((((w.alloc o).alloc o').alloc o'').alloc o3).heap[w.heap.size + 1 + 1 + 1]? = some o3 := by
  have h := blk_nw2 (w.alloc o) o' o'' o3
  rwa [World.size_alloc] at h
theorem noGoto_ret {Q : Exit → Act → World → Prop} {a : Act} {w : World} : Exit.noGoto Q .ret a w = Q .ret a w := rfl
theorem below_4 (w : World) (o o' o'' o3 : Obj) : Below w.heap.size w ((((w.alloc o).alloc o').alloc o'').alloc o3) :=
  ((((Below.refl _ w).alloc (Nat.le_refl _) o).alloc (by simp) o').alloc (by simp; omega) o'').alloc (by simp; omega) o3
set_option maxHeartbeats 8000000 in
set_option maxRecDepth 100000 in
theorem gmem_first.calls (A0_0 : Option Addr) (c0_0 : Nat) (l0_0 : List SM) (A0_1 : Option Addr) (c0_1 : Nat) (l0_1 : List SC) (a0_2 : Int) (A0_3 : Option Addr) (c0_3 : Nat) (l0_3 : List SP) (a1 a2 a3 : Int) (r1 r2 : Int) (w : World) (hr0_0 : Kd.C kM w A0_0 l0_0.length l0_0) (hc0_0 : l0_0.length ≤ c0_0) (hr0_1 : Kd.C kC w A0_1 l0_1.length l0_1) (hc0_1 : l0_1.length ≤ c0_1) (hr0_3 : Kd.C kP w A0_3 l0_3.length l0_3) (hc0_3 : l0_3.length ≤ c0_3) (h : gmem_first.f l0_0 l0_1 a0_2 l0_3 a1 a2 a3 = some (r1, r2)) :
    Calls Try.prog 41 #[.agg #[.slice A0_0 l0_0.length c0_0, .slice A0_1 l0_1.length c0_1, .int .u64 a0_2, .slice A0_3 l0_3.length c0_3], .int .u32 a1, .int .i64 a2, .int .i64 a3] w fun e w' => e = .returned (.agg #[.int .i64 r1, .int .u64 r2]) ∧ Below w.heap.size w w' := by
  unfold gmem_first.f at h
  split at h
  case isFalse => cases h
  rename_i hok
  obtain ⟨hs, hp, ha, ha2, hn, hn2⟩ := okSp_iff.1 hok
  have HR := Lib.hid (Option.some.inj h)
  have GR := Lib.hid (show GRead w A0_0 c0_0 l0_0 A0_1 c0_1 l0_1 A0_3 c0_3 l0_3 from ⟨hr0_0, hc0_0, hr0_1, hc0_1, hr0_3, hc0_3, hp, hs⟩)
  have NA := Lib.hid (And.intro ha ha2)
  have NN := Lib.hid (And.intro hn hn2)
  clear h hok hs hp ha ha2 hn hn2 hr0_0 hc0_0 hr0_1 hc0_1 hr0_3 hc0_3
  have hu2 := Try.underlying29
  have hu3 := Try.underlying25
  have hu4 := Try.underlying34
  refine (callsIn_wide (n := 6)).1 ?_
  refine callsIn_of_wp_marks Try.func41 rfl trivial ?_ rfl
  simp only [Try.ntmps41, List.size_toArray, List.length_cons, List.length_nil, Nat.reduceAdd, Nat.reduceSub, Array.replicate_succ, Array.replicate_zero, List.push_toArray, List.append_toArray, List.nil_append, List.cons_append]
  have K4 := Lib.hid (blk_alloc (blk_new w (.cells #[.slice A0_0 l0_0.length c0_0, .slice A0_1 l0_1.length c0_1, .int .u64 a0_2, .slice A0_3 l0_3.length c0_3] 29)) (.cells #[.int .i64 0, .int .u64 0] 34))
  have q4_0 := (sblk_cell K4.out 0).trans rfl
  have q4_1 := (sblk_cell K4.out 1).trans rfl
  have q4_2 := (sblk_cell K4.out 2).trans rfl
  have q4_3 := (sblk_cell K4.out 3).trans rfl
  gi_wp2_with (fail)
  refine wpIn_wide.2 (wp_scope_straight ((wpIn_wide (n := 6)).1 ?_))
  refine wpIn_seq (wpIn_label ?_)
  show Code.wpIn _ _ _ _ _ _ _
  have B0 := Lib.hid (blk_new1 w (.cells #[.slice A0_0 l0_0.length c0_0, .slice A0_1 l0_1.length c0_1, .int .u64 a0_2, .slice A0_3 l0_3.length c0_3] 29) (.cells #[.int .i64 0, .int .u64 0] 34))
  have D0 := Lib.hid (((Below.refl _ w).alloc (Nat.le_refl _) (.cells #[.slice A0_0 l0_0.length c0_0, .slice A0_1 l0_1.length c0_1, .int .u64 a0_2, .slice A0_3 l0_3.length c0_3] 29)).alloc (by simp) (.cells #[.int .i64 0, .int .u64 0] 34))
  have Z0 := Lib.hid (show ((w.alloc (.cells #[.slice A0_0 l0_0.length c0_0, .slice A0_1 l0_1.length c0_1, .int .u64 a0_2, .slice A0_3 l0_3.length c0_3] 29)).alloc (.cells #[.int .i64 0, .int .u64 0] 34)).heap.size = w.heap.size + 2 by simp)
  generalize (w.alloc (.cells #[.slice A0_0 l0_0.length c0_0, .slice A0_1 l0_1.length c0_1, .int .u64 a0_2, .slice A0_3 l0_3.length c0_3] 29)).alloc (.cells #[.int .i64 0, .int .u64 0] 34) = y1 at B0 D0 Z0 K4 q4_0 q4_1 q4_2 q4_3 ⊢
  gi_wp2_with (refine ⟨trivial, ?_⟩; gi_at_call 57; refine (callsIn_wide.2 (gSpan.calls #[.slice A0_0 l0_0.length c0_0, .slice A0_1 l0_1.length c0_1, .int .u64 a0_2, .slice A0_3 l0_3.length c0_3] ⟨_, _, _, _, rfl, trivial⟩ a1 a2 a3 _)).mono ?_; rintro e w' ⟨rfl, rfl⟩)
  have S0 := Lib.hid (show SInv w (y1.heap.size + 1) (y1.heap.size + 1 + 1) y1.heap.size (y1.heap.size + 1 + 1 + 1) #[.slice A0_0 l0_0.length c0_0, .slice A0_1 l0_1.length c0_1, .int .u64 a0_2, .slice A0_3 l0_3.length c0_3] a1 a2 a3 ((((y1.alloc (.cells #[.slice A0_0 l0_0.length c0_0, .slice A0_1 l0_1.length c0_1, .int .u64 a0_2, .slice A0_3 l0_3.length c0_3] 29)).alloc (.cells #[.int .u32 a1] 30)).alloc (.cells #[.int .i64 a2] 3)).alloc (.cells #[.int .i64 a3] 3)) from ⟨D0.out.trans ((below_4 y1 _ _ _ _).mono D0.out.size), blk_alloc (blk_alloc (blk_new1 y1 _ _) _) _, blk_alloc (blk_nw2 y1 _ _ _) _, blk_alloc (blk_alloc (blk_alloc (blk_new y1 _) _) _) _, blk_nw3 y1 _ _ _ _⟩)
  have F0 := Lib.hid (blk_alloc (blk_alloc (blk_alloc (blk_alloc B0.out (.cells #[.slice A0_0 l0_0.length c0_0, .slice A0_1 l0_1.length c0_1, .int .u64 a0_2, .slice A0_3 l0_3.length c0_3] 29)) (.cells #[.int .u32 a1] 30)) (.cells #[.int .i64 a2] 3)) (.cells #[.int .i64 a3] 3))
  have S3 := Lib.hid (show w.heap.size ≤ ((((y1.alloc (.cells #[.slice A0_0 l0_0.length c0_0, .slice A0_1 l0_1.length c0_1, .int .u64 a0_2, .slice A0_3 l0_3.length c0_3] 29)).alloc (.cells #[.int .u32 a1] 30)).alloc (.cells #[.int .i64 a2] 3)).alloc (.cells #[.int .i64 a3] 3)).heap.size from S0.out.bel.size)
  have Z1 := Lib.hid (show w.heap.size + 1 < ((((y1.alloc (.cells #[.slice A0_0 l0_0.length c0_0, .slice A0_1 l0_1.length c0_1, .int .u64 a0_2, .slice A0_3 l0_3.length c0_3] 29)).alloc (.cells #[.int .u32 a1] 30)).alloc (.cells #[.int .i64 a2] 3)).alloc (.cells #[.int .i64 a3] 3)).heap.size from sblk_lt F0.out)
  clear K4 B0 D0 q4_0 q4_1 q4_2 q4_3
  generalize ((((y1.alloc (.cells #[.slice A0_0 l0_0.length c0_0, .slice A0_1 l0_1.length c0_1, .int .u64 a0_2, .slice A0_3 l0_3.length c0_3] 29)).alloc (.cells #[.int .u32 a1] 30)).alloc (.cells #[.int .i64 a2] 3)).alloc (.cells #[.int .i64 a3] 3)) = y2 at S0 F0 S3 Z1 ⊢
  generalize y1.heap.size = B at S0 Z0 ⊢
  clear Z0 y1
  refine' wpIn_rangeFunc_ownG rfl (by omega) (gf := 85) (lb := #[.pointer (some ⟨B + 1, 0, none⟩), .pointer (some ⟨B + 1 + 1, 0, none⟩), .pointer (some ⟨B, 0, none⟩), .pointer (some ⟨B + 1 + 1 + 1, 0, none⟩)]) rfl trivial (enters_of Try.func85 (by kernel_rfl) rfl)
    (gSpan_stops (6 - 1) w (B + 1) (B + 1 + 1) B (B + 1 + 1 + 1) A0_0 c0_0 l0_0 A0_1 c0_1 l0_1 a0_2 A0_3 c0_3 l0_3 a1 a2 a3 GR.out NA.out.1 NA.out.2 NN.out.1 NN.out.2 _ S0.out) (fun h k x => k (h x)) (sinv_b S3.out) (Below.refl _ _) (fun _ => rfl)
    (FirI w (B + 1) (B + 1 + 1) B (B + 1 + 1 + 1) #[.slice A0_0 l0_0.length c0_0, .slice A0_1 l0_1.length c0_1, .int .u64 a0_2, .slice A0_3 l0_3.length c0_3] a1 a2 a3 l0_3) (FirX w l0_3 a3)
    (fun pre A A' row hs hg hr => ⟨hs.z, hs.s.own hg (fun r e => ⟨Nat.le_trans S3.out (hr r e).1, (hr r e).2⟩), blk_own hs.f hg (fun r e => (hr r e).2)⟩)
    (fun c pre A A' row hs hg hr => ⟨hs.1, by
      obtain ⟨pre', x, e, h1, h2, h3, h4⟩ := hs.2
      exact ⟨pre', x, e, h1, h2, h3.grown hg h3.size (fun k e => Nat.le_trans S3.out (hr k e).1), blk_own h4 hg (fun r e => (hr r e).2)⟩⟩)
    ⟨(fun x hx => by cases hx), S0.out, F0.out⟩
    (fun x => { tmps := #[.agg #[.slice A0_0 l0_0.length c0_0, .slice A0_1 l0_1.length c0_1, .int .u64 a0_2, .slice A0_3 l0_3.length c0_3], .int .u32 a1, .int .i64 a2, .int .i64 a3, .pointer (some ⟨w.heap.size, 0, none⟩), undef, undef, undef, .pointer (some ⟨w.heap.size + 1, 0, none⟩), .int .u64 (x % 18446744073709551616), .int .i64 (kindS l0_3 a3 (x % 18446744073709551616)), .agg #[.slice A0_0 l0_0.length c0_0, .slice A0_1 l0_1.length c0_1, .int .u64 a0_2, .slice A0_3 l0_3.length c0_3], .int .u32 a1, .int .i64 a2, .int .i64 a3, .func (.func 85) #[] #[.pointer (some ⟨B + 1, 0, none⟩), .pointer (some ⟨B + 1 + 1, 0, none⟩), .pointer (some ⟨B, 0, none⟩), .pointer (some ⟨B + 1 + 1 + 1, 0, none⟩)], .int .u64 (x % 18446744073709551616), .int .i64 (kindS l0_3 a3 (x % 18446744073709551616)), undef, undef, undef, undef, undef, undef], defers := [] }) ?assign ?body ?done ?stop
  case assign =>
    intro l x W K hK
    gi_wp2
    exact hK
  case body =>
    rintro l pre x W hI hlen
    have II := Lib.hid hI
    clear hI hlen
    have c0 := (sblk_cell II.out.f 0).trans rfl
    have c1 := (sblk_cell II.out.f 1).trans rfl
    have f0 := sblk_free II.out.f 0
    have f1 := sblk_free II.out.f 1
    obtain ⟨q, hq⟩ : ∃ q, kindS l0_3 a3 (x % 18446744073709551616) = q := ⟨_, rfl⟩
    rw [hq]
    have HQ := Lib.hid hq
    clear hq
    by_cases h0 : q = 0
    · subst h0
      gi_wp2
      exact ⟨KeepsFrom.refl _ _, fun h => h, ⟨fun y hy => by
        rcases List.mem_append.1 hy with h | h
        · exact II.out.z y h
        · rw [List.mem_singleton.1 h]; exact HQ.out, II.out.s, II.out.f⟩⟩
    have hb : (q != 0) = true := by simpa using h0
    have HN := Lib.hid h0
    clear h0
    gi_wp2
    refine ⟨?_, rfl, pre, x, rfl, II.out.z, by rw [HQ.out]; exact HN.out, ?_, ?_⟩
    · exact ((KeepsOthers.setCell _ _ _).trans (KeepsOthers.setCell _ _ _)).from _
    · exact (II.out.s.bel.setCell (p := ⟨w.heap.size + 1, 0, none⟩) (Nat.le_succ _) _).setCell (p := ⟨w.heap.size + 1, 1, none⟩) (Nat.le_succ _) _
    · rw [HQ.out]
      exact blk_put (blk_put II.out.f 0 _ rfl) 1 _ rfl
  case done =>
    rintro D ys W hD rfl hI hK
    have HF := Lib.hid hI.f
    have HB := Lib.hid hI.s.bel
    have hz := hI.z
    obtain rfl : (0 : Int) = r1 := by
      have h := HR.out
      rw [firstS_none (fun x hx => by have h1 := hz x hx; rwa [spanL_mod NA.out.1 (by have := NA.out; have := NN.out; omega) x hx] at h1)] at h
      exact (Prod.mk.inj h).1
    obtain rfl : (0 : Int) = r2 := by
      have h := HR.out
      rw [firstS_none (fun x hx => by have h1 := hz x hx; rwa [spanL_mod NA.out.1 (by have := NA.out; have := NN.out; omega) x hx] at h1)] at h
      exact (Prod.mk.inj h).2
    clear hI hz
    have DD := Lib.hid (Nat.le_trans S3.out hD)
    have d1 : D ≠ w.heap.size + 1 := by have := Z1.out; omega
    have hbD := fun o' => belowK_b (n₀ := w.heap.size) (w := w) (Nat.le_refl _) W D _ o' (Nat.le_trans S3.out hD) hK rfl rfl
    have HD := Lib.hid hbD
    have KD := Lib.hid hK
    have ND := Lib.hid d1
    clear hbD hD hK d1
    have c0 := (sblk_cell HF.out 0).trans rfl
    have c1 := (sblk_cell HF.out 1).trans rfl
    have f0 := sblk_free HF.out 0
    have f1 := sblk_free HF.out 1
    gi_wp2
    rw [noGoto_ret]
    dsimp +zetaDelta only
    have K2 := Lib.hid (show ((W.setCell ⟨w.heap.size + 1, 0, none⟩ (.int .i64 0)).setCell ⟨w.heap.size + 1, 1, none⟩ (.int .u64 0)).heap[D]? = some (.deferred (some [])) from (set_far ND.out).trans ((set_far ND.out).trans KD.out))
    have H2 := Lib.hid (show ((W.setCell ⟨w.heap.size + 1, 0, none⟩ (.int .i64 0)).setCell ⟨w.heap.size + 1, 1, none⟩ (.int .u64 0)).heap[w.heap.size + 1]? = some (.cells #[.int .i64 0, .int .u64 0] 34 (0, 0)) from blk_put (blk_put HF.out 0 _ rfl) 1 _ rfl)
    have B2 := Lib.hid (show Below w.heap.size w ((W.setCell ⟨w.heap.size + 1, 0, none⟩ (.int .i64 0)).setCell ⟨w.heap.size + 1, 1, none⟩ (.int .u64 0)) from (HB.out.setCell (p := ⟨w.heap.size + 1, 0, none⟩) (Nat.le_succ _) _).setCell (p := ⟨w.heap.size + 1, 1, none⟩) (Nat.le_succ _) _)
    clear c0 c1 f0 f1
    generalize ((W.setCell ⟨w.heap.size + 1, 0, none⟩ (.int .i64 0)).setCell ⟨w.heap.size + 1, 1, none⟩ (.int .u64 0)) = W2 at K2 H2 B2 ⊢
    refine ⟨by simp, .inl ⟨_, _, rfl, run_takeDeferred K2.out, ?_⟩⟩
    have u := (World.putObj_heap_other (o := .deferred none) (w := W2) (show w.heap.size + 1 ≠ D from Ne.symm ND.out)).trans H2.out
    have e0 := (sblk_cell u 0).trans rfl
    have e1 := (sblk_cell u 1).trans rfl
    exact ⟨.agg #[.int .i64 0, .int .u64 0], by simp [results, Try.results41, go_sem, e0, e1], rfl, B2.out.trans (belowK_b (n₀ := w.heap.size) (w := w) (Nat.le_refl _) W2 D _ _ DD.out K2.out rfl rfl)⟩
  case stop =>
    rintro D c pre W hD hpre ⟨rfl, pre', x, rfl, h1, h2, h3, h4⟩ hK
    have HF := Lib.hid h4
    have HB := Lib.hid h3
    clear h3 h4
    have hm := spanL_mod (a := a1) (n := a2) NA.out.1 (by have := NA.out; have := NN.out; omega)
    have hx := hm x (hpre.subset (by simp))
    have hfs := firstS_some (need := a3) (p := l0_3) hpre (fun y hy => by have h := h1 y hy; rwa [hm y (hpre.subset (List.mem_append_left _ hy))] at h) (by rwa [hx] at h2)
    rw [hx] at HF
    rw [HR.out] at hfs
    obtain ⟨e1, e2⟩ := Prod.mk.inj hfs
    rw [← e1, ← e2] at HF
    clear hfs e1 e2 hm hx h1 h2 hpre
    have DD := Lib.hid (Nat.le_trans S3.out hD)
    have d1 : D ≠ w.heap.size + 1 := by have := Z1.out; omega
    have hbD := fun o' => belowK_b (n₀ := w.heap.size) (w := w) (Nat.le_refl _) W D _ o' (Nat.le_trans S3.out hD) hK rfl rfl
    have HD := Lib.hid hbD
    have KD := Lib.hid hK
    have ND := Lib.hid d1
    clear hbD hD hK d1
    have c0 := (sblk_cell HF.out 0).trans rfl
    have c1 := (sblk_cell HF.out 1).trans rfl
    have f0 := sblk_free HF.out 0
    have f1 := sblk_free HF.out 1
    gi_wp2
    rw [noGoto_ret]
    dsimp +zetaDelta only
    have K2 := Lib.hid (show ((W.setCell ⟨w.heap.size + 1, 0, none⟩ (.int .i64 r1)).setCell ⟨w.heap.size + 1, 1, none⟩ (.int .u64 r2)).heap[D]? = some (.deferred (some [])) from (set_far ND.out).trans ((set_far ND.out).trans KD.out))
    have H2 := Lib.hid (show ((W.setCell ⟨w.heap.size + 1, 0, none⟩ (.int .i64 r1)).setCell ⟨w.heap.size + 1, 1, none⟩ (.int .u64 r2)).heap[w.heap.size + 1]? = some (.cells #[.int .i64 r1, .int .u64 r2] 34 (0, 0)) from blk_put (blk_put HF.out 0 _ rfl) 1 _ rfl)
    have B2 := Lib.hid (show Below w.heap.size w ((W.setCell ⟨w.heap.size + 1, 0, none⟩ (.int .i64 r1)).setCell ⟨w.heap.size + 1, 1, none⟩ (.int .u64 r2)) from (HB.out.setCell (p := ⟨w.heap.size + 1, 0, none⟩) (Nat.le_succ _) _).setCell (p := ⟨w.heap.size + 1, 1, none⟩) (Nat.le_succ _) _)
    clear c0 c1 f0 f1
    generalize ((W.setCell ⟨w.heap.size + 1, 0, none⟩ (.int .i64 r1)).setCell ⟨w.heap.size + 1, 1, none⟩ (.int .u64 r2)) = W2 at K2 H2 B2 ⊢
    refine ⟨by simp, .inl ⟨_, _, rfl, run_takeDeferred K2.out, ?_⟩⟩
    have u := (World.putObj_heap_other (o := .deferred none) (w := W2) (show w.heap.size + 1 ≠ D from Ne.symm ND.out)).trans H2.out
    have e0 := (sblk_cell u 0).trans rfl
    have e1 := (sblk_cell u 1).trans rfl
    exact ⟨.agg #[.int .i64 r1, .int .u64 r2], by simp [results, Try.results41, go_sem, e0, e1], rfl, B2.out.trans (belowK_b (n₀ := w.heap.size) (w := w) (Nat.le_refl _) W2 D _ _ DD.out K2.out rfl rfl)⟩
end Go.Proofs.Ytgkjdpdmmlalcaa.F
end
