/- The walk of the law SwapHalves: two texts of four bytes, joined; what it answers is true. Condition: the eight numbers are bytes. -/
import Derived.Test.YtadmaagbnepcfaaPSwapBytes
import Derived.Test.YtadmaagbnepcfaaFFerrylaw01Awake
namespace Go.Proofs.Ytadmaagbnepcfaa.F
open Go.RowKit Go.Proofs.YtadmaagbnepcfaaW.PrintWords Go.Proofs.YtadmaagbnepcfaaW.PrintLast Go.Proofs.YtadmaagbnepcfaaW.PrintMore
set_option linter.unusedVariables false

theorem be_any (s : ByteArray) (hs : s.size ≤ 8) (w : World) : Calls Try.prog 19 #[.string s] w fun e w' => e = .returned (.int .u64 (beOf (bys s false))) ∧ Below w.heap.size w w' := by
  refine (swap_Be.calls s (beOf (bys s false)) w ?_).mono (fun e w' h => h)
  unfold swap_Be.f swap_number.f
  rw [if_neg (by omega)]
  rfl
theorem le_any (s : ByteArray) (hs : s.size ≤ 8) (w : World) : Calls Try.prog 21 #[.string s] w fun e w' => e = .returned (.int .u64 (beOf (bys s true))) ∧ Below w.heap.size w w' := by
  refine (swap_Le.calls s (beOf (bys s true)) w ?_).mono (fun e w' h => h)
  unfold swap_Le.f swap_number.f
  rw [if_neg (by omega)]
  rfl
def beStr (v : Int) : ByteArray := ⟨(leBytes v 4).reverse.toArray⟩
def leStr (v : Int) : ByteArray := ⟨(leBytes v 4).toArray⟩
theorem putBe_any (v : Int) (w : World) : Calls Try.prog 23 #[.int .u64 v, .int .i64 4] w fun e w' => e = .returned (.string (beStr v)) ∧ Below w.heap.size w w' :=
  (swap_PutBe.calls v 4 (beStr v) w (putBe_eq v 4 (by decide))).mono (fun e w' h => h)
theorem putLe_any (v : Int) (w : World) : Calls Try.prog 25 #[.int .u64 v, .int .i64 4] w fun e w' => e = .returned (.string (leStr v)) ∧ Below w.heap.size w w' :=
  (swap_PutLe.calls v 4 (leStr v) w (putLe_eq v 4 (by decide))).mono (fun e w' h => h)
theorem awake_any (w : World) : Calls Try.prog 18 #[] w fun e w' => e = .returned (.bool true) ∧ Below w.heap.size w w' :=
  ferrylaw01_awake.calls true w (by decide +kernel)

theorem bys_app (s t : ByteArray) : bys (s ++ t) false = bys s false ++ bys t false := by
  simp [bys, ByteArray.data_append]
theorem bys_app_back (s t : ByteArray) : bys (s ++ t) true = bys t true ++ bys s true := by
  simp [bys, ByteArray.data_append]
/-- what a list of bytes is, by its number -/
theorem le_of_beOf : ∀ (n : Nat) (l : List UInt8) (v : Int), l.length = n → v % 256 ^ n = beOf l.reverse → leBytes v n = l
  | 0, l, v, hl, h => by
    obtain rfl : l = [] := List.length_eq_zero_iff.1 hl
    rfl
  | n + 1, l, v, hl, h => by
    have hp : (0 : Int) < 256 ^ n := Int.pow_pos (by decide)
    obtain ⟨m, x, rfl⟩ : ∃ m x, l = m ++ [x] := ⟨l.take n, l[n]'(by omega), by rw [← List.take_succ_eq_append_getElem (by omega), List.take_of_length_le (by omega)]⟩
    have hm : m.length = n := by simpa using hl
    rw [List.reverse_append, List.reverse_singleton, List.singleton_append, beOf_cons, List.length_reverse, hm, Int.pow_succ, emod_mul256 v _ hp] at h
    have hb := beOf_bound m.reverse
    rw [List.length_reverse, hm] at hb
    have h1 := Int.emod_nonneg v (show (256 : Int) ^ n ≠ 0 by omega)
    have h2 := Int.emod_lt_of_pos v hp
    have hd1 := div_mod_of (a := v / 256 ^ n % 256 * 256 ^ n + v % 256 ^ n) (b := 256 ^ n) (q := v / 256 ^ n % 256) (r := v % 256 ^ n) (by rw [Int.mul_comm]) h1 h2
    have hd2 := div_mod_of (a := (x.toNat : Int) * 256 ^ n + beOf m.reverse) (b := 256 ^ n) (q := (x.toNat : Int)) (r := beOf m.reverse) (by rw [Int.mul_comm]) hb.1 hb.2
    rw [h] at hd1
    have e1 : v / 256 ^ n % 256 = (x.toNat : Int) := hd1.1.symm.trans hd2.1
    have e2 : v % 256 ^ n = beOf m.reverse := hd1.2.symm.trans hd2.2
    rw [leBytes_succ, le_of_beOf n m v hm e2, e1, Int.toNat_natCast, UInt8.ofNat_toNat]
theorem be_str (s t : ByteArray) (ht : t.size = 4) : beStr (beOf (bys (s ++ t) false)) = t := by
  have hl : (bys t false).length = 4 := by rw [bys_length, ht]
  have h := le_of_beOf 4 (bys t false).reverse (beOf (bys (s ++ t) false)) (by rw [List.length_reverse, hl]) (by
    rw [List.reverse_reverse, bys_app, beOf_append, hl, Int.add_comm, Int.add_mul_emod_self_right]
    have hb := beOf_bound (bys t false)
    rw [hl] at hb
    exact Int.emod_eq_of_lt hb.1 hb.2)
  unfold beStr
  rw [h, List.reverse_reverse]
  rfl
theorem le_str (s t : ByteArray) (hs : s.size = 4) : leStr (beOf (bys (s ++ t) true)) = s := by
  have hl : (bys s true).length = 4 := by rw [bys_length, hs]
  have h := le_of_beOf 4 (bys s true).reverse (beOf (bys (s ++ t) true)) (by rw [List.length_reverse, hl]) (by
    rw [List.reverse_reverse, bys_app_back, beOf_append, hl, Int.add_comm, Int.add_mul_emod_self_right]
    have hb := beOf_bound (bys s true)
    rw [hl] at hb
    exact Int.emod_eq_of_lt hb.1 hb.2)
  unfold leStr
  rw [h]
  simp [bys]
theorem pow4 : (256 : Int) ^ 4 = 4294967296 := by rfl
theorem halves (a b : List UInt8) (ha : a.length = 4) (hb : b.length = 4) : IntKind.u64.wrap (beOf a * 4294967296) = beOf a * 4294967296 ∧ Go.bits .or .u64 (beOf a * 4294967296) (beOf b) = beOf (a ++ b) := by
  have h1 := beOf_bound a
  have h2 := beOf_bound b
  rw [ha, pow4] at h1
  rw [hb, pow4] at h2
  refine ⟨by rw [u64w]; omega, ?_⟩
  rw [beOf_append, hb, pow4, join64 32 (by omega) (by omega) (by omega) (by omega) (by omega) (by omega)]
theorem strOf4 (l : List Int) : (strOfNums l).size = l.length := by
  show (l.map fun n => UInt8.ofNat n.toNat).toArray.size = _
  rw [List.size_toArray, List.length_map]

theorem reads4 {W : World} {B : Nat} {a0 a1 a2 a3 : Int} {t : TypeId} (h : W.heap[B]? = some (.cells #[.int .u8 a0, .int .u8 a1, .int .u8 a2, .int .u8 a3] t (0, 0))) : ReadsInt W .u8 (some ⟨B, 0, none⟩) 4 [a0, a1, a2, a3] := by
  refine ⟨rfl, by decide, fun _ => ⟨_, rfl, fun j hj => ?_⟩⟩
  have hc : ∀ i, W.cell? ⟨B, i, none⟩ = #[Value.int .u8 a0, .int .u8 a1, .int .u8 a2, .int .u8 a3][i]? := fun i => by simp [World.cell?, h]
  have : j = 0 ∨ j = 1 ∨ j = 2 ∨ j = 3 := by omega
  rcases this with rfl | rfl | rfl | rfl
  · exact hc 0
  · exact hc 1
  · exact hc 2
  · exact hc 3
set_option maxHeartbeats 8000000 in
set_option maxRecDepth 100000 in
theorem halves_walk (a0 a1 a2 a3 b0 b1 b2 b3 : Int) (w : World) :
    Calls Try.prog 8 #[.agg #[.int .u8 a0, .int .u8 a1, .int .u8 a2, .int .u8 a3], .agg #[.int .u8 b0, .int .u8 b1, .int .u8 b2, .int .u8 b3]] w fun e w' => e = .returned (.bool true) ∧ Below w.heap.size w w' := by
  go_enter Try.func8, Try.ntmps8
  go_wp2_with fail
  obtain ⟨W, hW⟩ : ∃ W, (w.alloc (.cells #[.int .u8 a0, .int .u8 a1, .int .u8 a2, .int .u8 a3] 43)).alloc (.cells #[.int .u8 b0, .int .u8 b1, .int .u8 b2, .int .u8 b3] 43) = W := ⟨_, rfl⟩
  have hB : Below w.heap.size w W := by rw [← hW]; exact ((Below.refl _ w).alloc (Nat.le_refl _) _).alloc (by simp) _
  have d1 : W.heap[w.heap.size]? = some (.cells #[.int .u8 a0, .int .u8 a1, .int .u8 a2, .int .u8 a3] 43 (0, 0)) := by
    rw [← hW]
    exact (Below.heap_alloc _ _ _ (by simp)).trans (World.alloc_heap_new w _)
  have d2 : W.heap[w.heap.size + 1]? = some (.cells #[.int .u8 b0, .int .u8 b1, .int .u8 b2, .int .u8 b3] 43 (0, 0)) := by
    rw [← hW]
    have := World.alloc_heap_new (w.alloc (.cells #[.int .u8 a0, .int .u8 a1, .int .u8 a2, .int .u8 a3] 43)) (.cells #[.int .u8 b0, .int .u8 b1, .int .u8 b2, .int .u8 b3] 43)
    rwa [World.size_alloc] at this
  have r1 : ReadsInt W .u8 (some ⟨w.heap.size, 0, none⟩) 4 [a0, a1, a2, a3] := reads4 d1
  have r2 : ReadsInt W .u8 (some ⟨w.heap.size + 1, 0, none⟩) 4 [b0, b1, b2, b3] := reads4 d2
  have q1 : ∀ n, (convert 44 9 (.slice (some ⟨w.heap.size, 0, none⟩) 4 4)).run Try.prog (W.drewN n) = .ok (.string (strOfNums [a0, a1, a2, a3])) (W.drewN n) := fun n => string_of_reads (e := 5) Try.underlying44 Try.underlying5 Try.underlying9 r1
  have q2 : ∀ n, (convert 44 9 (.slice (some ⟨w.heap.size + 1, 0, none⟩) 4 4)).run Try.prog (W.drewN n) = .ok (.string (strOfNums [b0, b1, b2, b3])) (W.drewN n) := fun n => string_of_reads (e := 5) Try.underlying44 Try.underlying5 Try.underlying9 r2
  rw [hW]
  have HB := Aside0.mk hB
  have s1 := strOf4 [a0, a1, a2, a3]
  have s2 := strOf4 [b0, b1, b2, b3]
  obtain ⟨s, hs⟩ : ∃ s, strOfNums [a0, a1, a2, a3] = s := ⟨_, rfl⟩
  obtain ⟨t, ht⟩ : ∃ t, strOfNums [b0, b1, b2, b3] = t := ⟨_, rfl⟩
  rw [hs] at q1 s1
  rw [ht] at q2 s2
  clear hW r1 r2 d1 d2 hB hs ht
  go_quiet (fail)
  have s1' : s.size = 4 := s1
  have s2' : t.size = 4 := s2
  have hst : (s ++ t).size = 8 := by rw [ByteArray.size_append, s1', s2']
  have e1 := Aside0.mk (halves (bys s false) (bys t false) (by rw [bys_length, s1']) (by rw [bys_length, s2']))
  have e2 := Aside0.mk (halves (bys t true) (bys s true) (by rw [bys_length, s2']) (by rw [bys_length, s1']))
  have f1 := e1.out.1
  have f2 := e1.out.2
  have f3 := e2.out.1
  have f4 := e2.out.2
  rw [← bys_app] at f2
  rw [← bys_app_back] at f4
  have f5 := be_str s t s2'
  have f6 := le_str s t s1'
  have hb1 := Aside0.mk (show s.size ≤ 8 by omega)
  have hb2 := Aside0.mk (show t.size ≤ 8 by omega)
  have hb3 := Aside0.mk (show (s ++ t).size ≤ 8 by omega)
  have hsum : s.size + t.size ≤ 9223372036854775807 := by omega
  clear e1 e2 s1 s2 s1' s2' hst q1 q2
  go_wp2_with (first | (go_at_call 19; refine (be_any _ (by first | exact hb1.out | exact hb2.out | exact hb3.out) _).mono ?_; rintro e w1 ⟨rfl, hb⟩; have HB2 := Aside0.mk (below_step (by repeat (first | (with_reducible first | exact HB.out | apply below_alloc | apply pw_below_drewN | apply below_drew1) | exact HB.out)) hb); clear HB hb; have HB := HB2; clear HB2) | (go_at_call 21; refine (le_any _ (by first | exact hb1.out | exact hb2.out | exact hb3.out) _).mono ?_; rintro e w1 ⟨rfl, hb⟩; have HB2 := Aside0.mk (below_step (by repeat (first | (with_reducible first | exact HB.out | apply below_alloc | apply pw_below_drewN | apply below_drew1) | exact HB.out)) hb); clear HB hb; have HB := HB2; clear HB2) | (go_at_call 23; refine (putBe_any _ _).mono ?_; rintro e w1 ⟨rfl, hb⟩; have HB2 := Aside0.mk (below_step (by repeat (first | (with_reducible first | exact HB.out | apply below_alloc | apply pw_below_drewN | apply below_drew1) | exact HB.out)) hb); clear HB hb; have HB := HB2; clear HB2) | (go_at_call 25; refine (putLe_any _ _).mono ?_; rintro e w1 ⟨rfl, hb⟩; have HB2 := Aside0.mk (below_step (by repeat (first | (with_reducible first | exact HB.out | apply below_alloc | apply pw_below_drewN | apply below_drew1) | exact HB.out)) hb); clear HB hb; have HB := HB2; clear HB2) | (go_at_call 18; refine (awake_any _).mono ?_; rintro e w1 ⟨rfl, hb⟩; have HB2 := Aside0.mk (below_step (by repeat (first | (with_reducible first | exact HB.out | apply below_alloc | apply pw_below_drewN | apply below_drew1) | exact HB.out)) hb); clear HB hb; have HB := HB2; clear HB2))
  go_ret
  exact ⟨rfl, by repeat (first | (with_reducible first | exact HB.out | apply below_alloc | apply pw_below_drewN | apply below_drew1) | exact HB.out)⟩
end Go.Proofs.Ytadmaagbnepcfaa.F
