/- The document's words in parts, walked: four bytes in a variable of its own, one by one. Condition: numbers of their kinds. -/
import Derived.WalkKit
import Derived.OwnWalkIn
import Derived.WalkSmall
import Derived.RangeFuncRecord
import Derived.ProofKit
import Derived.Lib.Hide
import Derived.Shelf.RegionOpen
import Derived.Shelf.Abstract
import Derived.Test.YtommcnppgodhgaaDoorBits
import Derived.Test.YtommcnppgodhgaaDoorF0
import Derived.Test.YtommcnppgodhgaaDoorFFerryref10Place
import Derived.Test.YtommcnppgodhgaaDoorFFerryref10ByteOf
namespace Go.Proofs.YtommcnppgodhgaaDoor.F
open Go.RowKit Go.Shelf Go.Proofs.YtommcnppgodhgaaDoorW.PrintWords Go.Proofs.YtommcnppgodhgaaDoorW.PrintLast Go.Proofs.YtommcnppgodhgaaDoorW.PrintMore
set_option linter.unusedVariables false
set_option linter.unusedSimpArgs false

/-- a variable of four numbers, of which the first k are b's -/
def Is4 (B : Nat) (b : Nat → Int) (k : Nat) (w : World) : Prop :=
  w.heap[B]? = some (.cells #[.int .u32 (if 0 < k then b 0 else 0), .int .u32 (if 1 < k then b 1 else 0), .int .u32 (if 2 < k then b 2 else 0), .int .u32 (if 3 < k then b 3 else 0)] 46 (0, 0))
theorem is4_cell {B : Nat} {b : Nat → Int} {k j : Nat} {w : World} (h : Is4 B b k w) (hj : j < 4) : (∃ v, w.cell? ⟨B, j, none⟩ = some (.int .u32 v)) ∧ w.frozen? ⟨B, j, none⟩ = false := by
  unfold Is4 at h
  unfold World.cell? World.frozen?
  simp only [h]
  have hc : j = 0 ∨ j = 1 ∨ j = 2 ∨ j = 3 := by omega
  rcases hc with rfl | rfl | rfl | rfl
  all_goals exact ⟨⟨_, rfl⟩, rfl⟩
theorem is4_step {B : Nat} {b : Nat → Int} {k : Nat} {w : World} (h : Is4 B b k w) (hk : k < 4) : Is4 B b (k + 1) (w.setCell ⟨B, k, none⟩ (.int .u32 (b k))) := by
  unfold Is4 at h ⊢
  have hlt : B < w.heap.size := (Array.getElem?_eq_some_iff.1 h).1
  have hc : k = 0 ∨ k = 1 ∨ k = 2 ∨ k = 3 := by omega
  unfold World.setCell
  rcases hc with rfl | rfl | rfl | rfl
  all_goals
    simp only [Array.getElem?_modify, h]
    rfl
/-- four bytes as a word -/
def word4 (x y z u : Int) : Int := Go.bits .or .u32 (Go.bits .or .u32 (Go.bits .or .u32 (x * 16777216 % 4294967296) (y * 65536 % 4294967296)) (z * 256 % 4294967296)) u
set_option maxHeartbeats 4000000 in
theorem word4.calls (x y z u : Int) (w : World) :
    Calls Tryd.prog 37 #[.agg #[.int .u32 x, .int .u32 y, .int .u32 z, .int .u32 u]] w fun e w' => e = .returned (.int .u32 (word4 x y z u)) ∧ Below w.heap.size w w' := by
  unfold word4
  go_enter Tryd.func37, Tryd.ntmps37
  go_wp2
  go_ret
  exact ⟨rfl, (Below.refl _ w).alloc (Nat.le_refl _) _⟩
theorem is4_new (w : World) (b : Nat → Int) : Is4 w.heap.size b 0 (w.alloc (.cells #[.int .u32 0, .int .u32 0, .int .u32 0, .int .u32 0] 46)) := World.alloc_heap_new w _
theorem is4_drawn {B : Nat} {b : Nat → Int} {k n : Nat} {w : World} (h : Is4 B b k w) : Is4 B b k (w.drewN n) := h
/-- a byte of a word -/
def byteAt (w : Int) (k : Nat) : Int := w / 2 ^ (24 - 8 * k) % 256
theorem byteAt_calls (x : Int) (k : Nat) (h0 : 0 ≤ x) (h1 : x ≤ 4294967295) (hk : k < 4) (i : Int) (hi : i = (k : Int)) (w : World) :
    Calls Tryd.prog 36 #[.int .u32 x, .int .i64 i] w fun e w' => e = .returned (.int .u32 (byteAt x k)) ∧ Drawn0 w w' := by
  subst hi
  refine ferryref10_byteOf.calls x k (byteAt x k) w ?_
  unfold ferryref10_byteOf.f byteAt
  have hc : k = 0 ∨ k = 1 ∨ k = 2 ∨ k = 3 := by omega
  rcases hc with rfl | rfl | rfl | rfl
  · rw [if_pos (by decide +kernel)]
    have e : shr .u32 x (IntKind.u64.wrap (wrap64 (24 - wrap64 (8 * ((0 : Nat) : Int))))) = x / 16777216 := by
      unfold shr
      rw [show min (IntKind.u64.wrap (wrap64 (24 - wrap64 (8 * ((0 : Nat) : Int))))).toNat IntKind.u32.bits = 24 by decide +kernel]
      rfl
    rw [e]
    refine congrArg some ((mask32 8 (by decide) (by omega) (by omega)).trans ?_)
    rfl
  · rw [if_pos (by decide +kernel)]
    have e : shr .u32 x (IntKind.u64.wrap (wrap64 (24 - wrap64 (8 * ((1 : Nat) : Int))))) = x / 65536 := by
      unfold shr
      rw [show min (IntKind.u64.wrap (wrap64 (24 - wrap64 (8 * ((1 : Nat) : Int))))).toNat IntKind.u32.bits = 16 by decide +kernel]
      rfl
    rw [e]
    refine congrArg some ((mask32 8 (by decide) (by omega) (by omega)).trans ?_)
    rfl
  · rw [if_pos (by decide +kernel)]
    have e : shr .u32 x (IntKind.u64.wrap (wrap64 (24 - wrap64 (8 * ((2 : Nat) : Int))))) = x / 256 := by
      unfold shr
      rw [show min (IntKind.u64.wrap (wrap64 (24 - wrap64 (8 * ((2 : Nat) : Int))))).toNat IntKind.u32.bits = 8 by decide +kernel]
      rfl
    rw [e]
    refine congrArg some ((mask32 8 (by decide) (by omega) (by omega)).trans ?_)
    rfl
  · rw [if_pos (by decide +kernel)]
    have e : shr .u32 x (IntKind.u64.wrap (wrap64 (24 - wrap64 (8 * ((3 : Nat) : Int))))) = x / 1 := by
      unfold shr
      rw [show min (IntKind.u64.wrap (wrap64 (24 - wrap64 (8 * ((3 : Nat) : Int))))).toNat IntKind.u32.bits = 0 by decide +kernel]
      rfl
    rw [e]
    refine congrArg some ((mask32 8 (by decide) (by omega) (by omega)).trans ?_)
    rfl
set_option maxHeartbeats 8000000 in
set_option maxRecDepth 100000 in
theorem refLoadLeft_walk (o y at_ : Int) (a : Nat) (ha : a < 4) (hat : ferryref10_place.f at_ = some (a : Int)) (h0 : 0 ≤ o) (h1 : o ≤ 4294967295) (h2 : 0 ≤ y) (h3 : y ≤ 4294967295) (b : Nat → Int) (hb : b = fun i => if a + i < 4 then byteAt y (a + i) else byteAt o i) (w : World) :
    Calls Tryd.prog 15 #[.int .u32 o, .int .u32 y, .int .i64 at_] w fun e w' => e = .returned (.int .u32 (word4 (b 0) (b 1) (b 2) (b 3))) ∧ Below w.heap.size w w' := by
  have hb' := Lib.hid hb
  clear hb
  have PL := Lib.hid (fun w => ferryref10_place.calls at_ a w hat)
  have BY := Lib.hid (fun k hk i hi w => byteAt_calls y k h2 h3 hk i hi w)
  have BO := Lib.hid (fun k hk i hi w => byteAt_calls o k h0 h1 hk i hi w)
  have WD := Lib.hid (fun w => word4.calls (b 0) (b 1) (b 2) (b 3) w)
  have N0 := Lib.hid (is4_new w b)
  go_enter Tryd.func15, Tryd.ntmps15
  go_wp2_with (go_at_call 35; refine (PL.out _).mono ?_; rintro e w' ⟨rfl, ⟨nd, rfl⟩⟩)
  go_loopw [9] (fun t wr => ∃ k : Nat, t = .int .i64 k ∧ k ≤ 4 ∧ Is4 w.heap.size b k wr ∧ Below w.heap.size w wr) (fun t _ => 4 - (intOf t).toNat)
  case atStart => exact ⟨0, rfl, Nat.zero_le _, is4_drawn N0.out, below_drewN ((Below.refl _ w).alloc (Nat.le_refl _) _) _⟩
  case round =>
    obtain ⟨k, rfl, hk, hI, hB⟩ := hrel
    by_cases hlt : k < 4
    · have hk4 : (k : Int) < 4 := by omega
      obtain ⟨⟨v0, c1⟩, c2⟩ := is4_cell hI hlt
      by_cases hak : a + k < 4
      · have d1 : (a : Int) + (k : Int) < 4 := by omega
        have db : decide ((a : Int) + (k : Int) < 4) = true := decide_eq_true d1
        obtain ⟨m, hm⟩ : ∃ m : Nat, (a + k) = m := ⟨_, rfl⟩
        have hi := Lib.hid (show (a : Int) + (k : Int) = (m : Int) by omega)
        have d3 : wrap64 ((a : Int) + (k : Int)) = (m : Int) := by rw [show (a : Int) + (k : Int) = (m : Int) by omega]; exact w64_id (by omega) (by omega)
        have hbk := Lib.hid (show byteAt y m = b k by rw [hb'.out, ← hm]; exact (if_pos hak).symm)
        have hm4 : m < 4 := by omega
        clear hm
        go_wp2_with (go_at_call 36; (with_reducible refine (BY.out m hm4 _ (by first | rfl | exact hi.out | exact d3) _).mono ?_); rintro e w' ⟨rfl, ⟨nd2, rfl⟩⟩)
        refine ⟨⟨k + 1, by go_num, hlt, by rw [hbk.out]; exact is4_step (is4_drawn hI) hlt, (below_drewN hB _).setCell (p := ⟨w.heap.size, k, none⟩) (Nat.le_refl _) _⟩, by simp [intOf]; omega⟩
      · have d1 : ¬ (a : Int) + (k : Int) < 4 := by omega
        have db : decide ((a : Int) + (k : Int) < 4) = false := decide_eq_false d1
        have hbk := Lib.hid (show byteAt o k = b k by rw [hb'.out]; exact (if_neg hak).symm)
        have hm4 : k < 4 := by omega
        go_wp2_with (go_at_call 36; (with_reducible refine (BO.out k hm4 _ (by first | rfl | exact hi.out | exact d3) _).mono ?_); rintro e w' ⟨rfl, ⟨nd2, rfl⟩⟩)
        refine ⟨⟨k + 1, by go_num, hlt, by rw [hbk.out]; exact is4_step (is4_drawn hI) hlt, (below_drewN hB _).setCell (p := ⟨w.heap.size, k, none⟩) (Nat.le_refl _) _⟩, by simp [intOf]; omega⟩
    · have e4 : k = 4 := by omega
      subst e4
      have hI4 : wr.heap[w.heap.size]? = some (.cells #[.int .u32 (b 0), .int .u32 (b 1), .int .u32 (b 2), .int .u32 (b 3)] 46 (0, 0)) := hI
      have g0 : wr.cell? ⟨w.heap.size, 0, none⟩ = some (.int .u32 (b 0)) := by unfold World.cell?; rw [hI4]; rfl
      have g1 : wr.cell? ⟨w.heap.size, 1, none⟩ = some (.int .u32 (b 1)) := by unfold World.cell?; rw [hI4]; rfl
      have g2 : wr.cell? ⟨w.heap.size, 2, none⟩ = some (.int .u32 (b 2)) := by unfold World.cell?; rw [hI4]; rfl
      have g3 : wr.cell? ⟨w.heap.size, 3, none⟩ = some (.int .u32 (b 3)) := by unfold World.cell?; rw [hI4]; rfl
      go_wp2_with (go_at_call 37; (with_reducible refine (WD.out _).mono ?_); rintro e w5 ⟨rfl, hb5⟩)
      go_ret
      exact ⟨rfl, hB.trans (hb5.mono hB.size)⟩
set_option maxHeartbeats 8000000 in
set_option maxRecDepth 100000 in
theorem refLoadRight_walk (o y at_ : Int) (a : Nat) (ha : a < 4) (hat : ferryref10_place.f at_ = some (a : Int)) (h0 : 0 ≤ o) (h1 : o ≤ 4294967295) (h2 : 0 ≤ y) (h3 : y ≤ 4294967295) (b : Nat → Int) (hb : b = fun i => if i < 3 - a then byteAt o i else byteAt y (i - (3 - a))) (w : World) :
    Calls Tryd.prog 17 #[.int .u32 o, .int .u32 y, .int .i64 at_] w fun e w' => e = .returned (.int .u32 (word4 (b 0) (b 1) (b 2) (b 3))) ∧ Below w.heap.size w w' := by
  have hb' := Lib.hid hb
  clear hb
  have PL := Lib.hid (fun w => ferryref10_place.calls at_ a w hat)
  have BY := Lib.hid (fun k hk i hi w => byteAt_calls y k h2 h3 hk i hi w)
  have BO := Lib.hid (fun k hk i hi w => byteAt_calls o k h0 h1 hk i hi w)
  have WD := Lib.hid (fun w => word4.calls (b 0) (b 1) (b 2) (b 3) w)
  have N0 := Lib.hid (is4_new w b)
  go_enter Tryd.func17, Tryd.ntmps17
  go_wp2_with (go_at_call 35; refine (PL.out _).mono ?_; rintro e w' ⟨rfl, ⟨nd, rfl⟩⟩)
  go_loopw [9] (fun t wr => ∃ k : Nat, t = .int .i64 k ∧ k ≤ 4 ∧ Is4 w.heap.size b k wr ∧ Below w.heap.size w wr) (fun t _ => 4 - (intOf t).toNat)
  case atStart => exact ⟨0, rfl, Nat.zero_le _, is4_drawn N0.out, below_drewN ((Below.refl _ w).alloc (Nat.le_refl _) _) _⟩
  case round =>
    obtain ⟨k, rfl, hk, hI, hB⟩ := hrel
    by_cases hlt : k < 4
    · have hk4 : (k : Int) < 4 := by omega
      obtain ⟨⟨v0, c1⟩, c2⟩ := is4_cell hI hlt
      by_cases hak : k < 3 - a
      · have d1 : (k : Int) < 3 - (a : Int) := by omega
        have db : decide ((k : Int) < 3 - (a : Int)) = true := decide_eq_true d1
        have d4 : wrap64 (3 - (a : Int)) = 3 - (a : Int) := w64_id (by omega) (by omega)
        have hbk := Lib.hid (show byteAt o k = b k by rw [hb'.out]; exact (if_pos hak).symm)
        have hm4 : k < 4 := by omega
        go_wp2_with (go_at_call 36; (with_reducible refine (BO.out k hm4 _ (by first | rfl | exact hi.out | exact d3) _).mono ?_); rintro e w' ⟨rfl, ⟨nd2, rfl⟩⟩)
        refine ⟨⟨k + 1, by go_num, hlt, by rw [hbk.out]; exact is4_step (is4_drawn hI) hlt, (below_drewN hB _).setCell (p := ⟨w.heap.size, k, none⟩) (Nat.le_refl _) _⟩, by simp [intOf]; omega⟩
      · have d1 : ¬ (k : Int) < 3 - (a : Int) := by omega
        have db : decide ((k : Int) < 3 - (a : Int)) = false := decide_eq_false d1
        obtain ⟨m, hm⟩ : ∃ m : Nat, (k - (3 - a)) = m := ⟨_, rfl⟩
        have hi := Lib.hid (show (k : Int) - (3 - (a : Int)) = (m : Int) by omega)
        have d3 : wrap64 ((k : Int) - (3 - (a : Int))) = (m : Int) := by rw [show (k : Int) - (3 - (a : Int)) = (m : Int) by omega]; exact w64_id (by omega) (by omega)
        have d4 : wrap64 (3 - (a : Int)) = 3 - (a : Int) := w64_id (by omega) (by omega)
        have hbk := Lib.hid (show byteAt y m = b k by rw [hb'.out, ← hm]; exact (if_neg hak).symm)
        have hm4 : m < 4 := by omega
        clear hm
        go_wp2_with (go_at_call 36; (with_reducible refine (BY.out m hm4 _ (by first | rfl | exact hi.out | exact d3) _).mono ?_); rintro e w' ⟨rfl, ⟨nd2, rfl⟩⟩)
        refine ⟨⟨k + 1, by go_num, hlt, by rw [hbk.out]; exact is4_step (is4_drawn hI) hlt, (below_drewN hB _).setCell (p := ⟨w.heap.size, k, none⟩) (Nat.le_refl _) _⟩, by simp [intOf]; omega⟩
    · have e4 : k = 4 := by omega
      subst e4
      have hI4 : wr.heap[w.heap.size]? = some (.cells #[.int .u32 (b 0), .int .u32 (b 1), .int .u32 (b 2), .int .u32 (b 3)] 46 (0, 0)) := hI
      have g0 : wr.cell? ⟨w.heap.size, 0, none⟩ = some (.int .u32 (b 0)) := by unfold World.cell?; rw [hI4]; rfl
      have g1 : wr.cell? ⟨w.heap.size, 1, none⟩ = some (.int .u32 (b 1)) := by unfold World.cell?; rw [hI4]; rfl
      have g2 : wr.cell? ⟨w.heap.size, 2, none⟩ = some (.int .u32 (b 2)) := by unfold World.cell?; rw [hI4]; rfl
      have g3 : wr.cell? ⟨w.heap.size, 3, none⟩ = some (.int .u32 (b 3)) := by unfold World.cell?; rw [hI4]; rfl
      go_wp2_with (go_at_call 37; (with_reducible refine (WD.out _).mono ?_); rintro e w5 ⟨rfl, hb5⟩)
      go_ret
      exact ⟨rfl, hB.trans (hb5.mono hB.size)⟩
set_option maxHeartbeats 8000000 in
set_option maxRecDepth 100000 in
theorem refStoreLeft_walk (o y at_ : Int) (a : Nat) (ha : a < 4) (hat : ferryref10_place.f at_ = some (a : Int)) (h0 : 0 ≤ o) (h1 : o ≤ 4294967295) (h2 : 0 ≤ y) (h3 : y ≤ 4294967295) (b : Nat → Int) (hb : b = fun i => if i < a then byteAt o i else byteAt y (i - a)) (w : World) :
    Calls Tryd.prog 19 #[.int .u32 o, .int .u32 y, .int .i64 at_] w fun e w' => e = .returned (.int .u32 (word4 (b 0) (b 1) (b 2) (b 3))) ∧ Below w.heap.size w w' := by
  have hb' := Lib.hid hb
  clear hb
  have PL := Lib.hid (fun w => ferryref10_place.calls at_ a w hat)
  have BY := Lib.hid (fun k hk i hi w => byteAt_calls y k h2 h3 hk i hi w)
  have BO := Lib.hid (fun k hk i hi w => byteAt_calls o k h0 h1 hk i hi w)
  have WD := Lib.hid (fun w => word4.calls (b 0) (b 1) (b 2) (b 3) w)
  have N0 := Lib.hid (is4_new w b)
  go_enter Tryd.func19, Tryd.ntmps19
  go_wp2_with (go_at_call 35; refine (PL.out _).mono ?_; rintro e w' ⟨rfl, ⟨nd, rfl⟩⟩)
  go_loopw [9] (fun t wr => ∃ k : Nat, t = .int .i64 k ∧ k ≤ 4 ∧ Is4 w.heap.size b k wr ∧ Below w.heap.size w wr) (fun t _ => 4 - (intOf t).toNat)
  case atStart => exact ⟨0, rfl, Nat.zero_le _, is4_drawn N0.out, below_drewN ((Below.refl _ w).alloc (Nat.le_refl _) _) _⟩
  case round =>
    obtain ⟨k, rfl, hk, hI, hB⟩ := hrel
    by_cases hlt : k < 4
    · have hk4 : (k : Int) < 4 := by omega
      obtain ⟨⟨v0, c1⟩, c2⟩ := is4_cell hI hlt
      by_cases hak : k < a
      · have d1 : (k : Int) < (a : Int) := by omega
        have db : decide ((k : Int) < (a : Int)) = true := decide_eq_true d1
        have hbk := Lib.hid (show byteAt o k = b k by rw [hb'.out]; exact (if_pos hak).symm)
        have hm4 : k < 4 := by omega
        go_wp2_with (go_at_call 36; (with_reducible refine (BO.out k hm4 _ (by first | rfl | exact hi.out | exact d3) _).mono ?_); rintro e w' ⟨rfl, ⟨nd2, rfl⟩⟩)
        refine ⟨⟨k + 1, by go_num, hlt, by rw [hbk.out]; exact is4_step (is4_drawn hI) hlt, (below_drewN hB _).setCell (p := ⟨w.heap.size, k, none⟩) (Nat.le_refl _) _⟩, by simp [intOf]; omega⟩
      · have d1 : ¬ (k : Int) < (a : Int) := by omega
        have db : decide ((k : Int) < (a : Int)) = false := decide_eq_false d1
        obtain ⟨m, hm⟩ : ∃ m : Nat, (k - a) = m := ⟨_, rfl⟩
        have hi := Lib.hid (show (k : Int) - (a : Int) = (m : Int) by omega)
        have d3 : wrap64 ((k : Int) - (a : Int)) = (m : Int) := by rw [show (k : Int) - (a : Int) = (m : Int) by omega]; exact w64_id (by omega) (by omega)
        have hbk := Lib.hid (show byteAt y m = b k by rw [hb'.out, ← hm]; exact (if_neg hak).symm)
        have hm4 : m < 4 := by omega
        clear hm
        go_wp2_with (go_at_call 36; (with_reducible refine (BY.out m hm4 _ (by first | rfl | exact hi.out | exact d3) _).mono ?_); rintro e w' ⟨rfl, ⟨nd2, rfl⟩⟩)
        refine ⟨⟨k + 1, by go_num, hlt, by rw [hbk.out]; exact is4_step (is4_drawn hI) hlt, (below_drewN hB _).setCell (p := ⟨w.heap.size, k, none⟩) (Nat.le_refl _) _⟩, by simp [intOf]; omega⟩
    · have e4 : k = 4 := by omega
      subst e4
      have hI4 : wr.heap[w.heap.size]? = some (.cells #[.int .u32 (b 0), .int .u32 (b 1), .int .u32 (b 2), .int .u32 (b 3)] 46 (0, 0)) := hI
      have g0 : wr.cell? ⟨w.heap.size, 0, none⟩ = some (.int .u32 (b 0)) := by unfold World.cell?; rw [hI4]; rfl
      have g1 : wr.cell? ⟨w.heap.size, 1, none⟩ = some (.int .u32 (b 1)) := by unfold World.cell?; rw [hI4]; rfl
      have g2 : wr.cell? ⟨w.heap.size, 2, none⟩ = some (.int .u32 (b 2)) := by unfold World.cell?; rw [hI4]; rfl
      have g3 : wr.cell? ⟨w.heap.size, 3, none⟩ = some (.int .u32 (b 3)) := by unfold World.cell?; rw [hI4]; rfl
      go_wp2_with (go_at_call 37; (with_reducible refine (WD.out _).mono ?_); rintro e w5 ⟨rfl, hb5⟩)
      go_ret
      exact ⟨rfl, hB.trans (hb5.mono hB.size)⟩
set_option maxHeartbeats 8000000 in
set_option maxRecDepth 100000 in
theorem refStoreRight_walk (o y at_ : Int) (a : Nat) (ha : a < 4) (hat : ferryref10_place.f at_ = some (a : Int)) (h0 : 0 ≤ o) (h1 : o ≤ 4294967295) (h2 : 0 ≤ y) (h3 : y ≤ 4294967295) (b : Nat → Int) (hb : b = fun i => if i ≤ a then byteAt y (3 - a + i) else byteAt o i) (w : World) :
    Calls Tryd.prog 21 #[.int .u32 o, .int .u32 y, .int .i64 at_] w fun e w' => e = .returned (.int .u32 (word4 (b 0) (b 1) (b 2) (b 3))) ∧ Below w.heap.size w w' := by
  have hb' := Lib.hid hb
  clear hb
  have PL := Lib.hid (fun w => ferryref10_place.calls at_ a w hat)
  have BY := Lib.hid (fun k hk i hi w => byteAt_calls y k h2 h3 hk i hi w)
  have BO := Lib.hid (fun k hk i hi w => byteAt_calls o k h0 h1 hk i hi w)
  have WD := Lib.hid (fun w => word4.calls (b 0) (b 1) (b 2) (b 3) w)
  have N0 := Lib.hid (is4_new w b)
  go_enter Tryd.func21, Tryd.ntmps21
  go_wp2_with (go_at_call 35; refine (PL.out _).mono ?_; rintro e w' ⟨rfl, ⟨nd, rfl⟩⟩)
  go_loopw [9] (fun t wr => ∃ k : Nat, t = .int .i64 k ∧ k ≤ 4 ∧ Is4 w.heap.size b k wr ∧ Below w.heap.size w wr) (fun t _ => 4 - (intOf t).toNat)
  case atStart => exact ⟨0, rfl, Nat.zero_le _, is4_drawn N0.out, below_drewN ((Below.refl _ w).alloc (Nat.le_refl _) _) _⟩
  case round =>
    obtain ⟨k, rfl, hk, hI, hB⟩ := hrel
    by_cases hlt : k < 4
    · have hk4 : (k : Int) < 4 := by omega
      obtain ⟨⟨v0, c1⟩, c2⟩ := is4_cell hI hlt
      by_cases hak : k ≤ a
      · have d1 : (k : Int) ≤ (a : Int) := by omega
        have db : decide ((k : Int) ≤ (a : Int)) = true := decide_eq_true d1
        obtain ⟨m, hm⟩ : ∃ m : Nat, (3 - a + k) = m := ⟨_, rfl⟩
        have hi := Lib.hid (show 3 - (a : Int) + (k : Int) = (m : Int) by omega)
        have d3 : wrap64 (3 - (a : Int) + (k : Int)) = (m : Int) := by rw [show 3 - (a : Int) + (k : Int) = (m : Int) by omega]; exact w64_id (by omega) (by omega)
        have d4 : wrap64 (3 - (a : Int)) = 3 - (a : Int) := w64_id (by omega) (by omega)
        have hbk := Lib.hid (show byteAt y m = b k by rw [hb'.out, ← hm]; exact (if_pos hak).symm)
        have hm4 : m < 4 := by omega
        clear hm
        go_wp2_with (go_at_call 36; (with_reducible refine (BY.out m hm4 _ (by first | rfl | exact hi.out | exact d3) _).mono ?_); rintro e w' ⟨rfl, ⟨nd2, rfl⟩⟩)
        refine ⟨⟨k + 1, by go_num, hlt, by rw [hbk.out]; exact is4_step (is4_drawn hI) hlt, (below_drewN hB _).setCell (p := ⟨w.heap.size, k, none⟩) (Nat.le_refl _) _⟩, by simp [intOf]; omega⟩
      · have d1 : ¬ (k : Int) ≤ (a : Int) := by omega
        have db : decide ((k : Int) ≤ (a : Int)) = false := decide_eq_false d1
        have hbk := Lib.hid (show byteAt o k = b k by rw [hb'.out]; exact (if_neg hak).symm)
        have hm4 : k < 4 := by omega
        go_wp2_with (go_at_call 36; (with_reducible refine (BO.out k hm4 _ (by first | rfl | exact hi.out | exact d3) _).mono ?_); rintro e w' ⟨rfl, ⟨nd2, rfl⟩⟩)
        refine ⟨⟨k + 1, by go_num, hlt, by rw [hbk.out]; exact is4_step (is4_drawn hI) hlt, (below_drewN hB _).setCell (p := ⟨w.heap.size, k, none⟩) (Nat.le_refl _) _⟩, by simp [intOf]; omega⟩
    · have e4 : k = 4 := by omega
      subst e4
      have hI4 : wr.heap[w.heap.size]? = some (.cells #[.int .u32 (b 0), .int .u32 (b 1), .int .u32 (b 2), .int .u32 (b 3)] 46 (0, 0)) := hI
      have g0 : wr.cell? ⟨w.heap.size, 0, none⟩ = some (.int .u32 (b 0)) := by unfold World.cell?; rw [hI4]; rfl
      have g1 : wr.cell? ⟨w.heap.size, 1, none⟩ = some (.int .u32 (b 1)) := by unfold World.cell?; rw [hI4]; rfl
      have g2 : wr.cell? ⟨w.heap.size, 2, none⟩ = some (.int .u32 (b 2)) := by unfold World.cell?; rw [hI4]; rfl
      have g3 : wr.cell? ⟨w.heap.size, 3, none⟩ = some (.int .u32 (b 3)) := by unfold World.cell?; rw [hI4]; rfl
      go_wp2_with (go_at_call 37; (with_reducible refine (WD.out _).mono ?_); rintro e w5 ⟨rfl, hb5⟩)
      go_ret
      exact ⟨rfl, hB.trans (hb5.mono hB.size)⟩
/-- which byte of a word an address is -/
def placeOf (n : Int) : Nat := (n % 4).toNat
theorem placeOf_lt (n : Int) : placeOf n < 4 := by unfold placeOf; omega
theorem place_of (n : Int) : ferryref10_place.f n = some (placeOf n : Int) := by
  unfold ferryref10_place.f placeOf
  rw [u64w, Int.tmod_eq_emod_of_nonneg (by omega), w64_id (by omega) (by omega)]
  refine congrArg some ?_
  omega
def bytesLoadLeft (a : Nat) (o y : Int) : Nat → Int := fun i => if a + i < 4 then byteAt y (a + i) else byteAt o i
-- HAND fn=ferry/ferryref10.LoadLeft ; rounds=0 ; making=1
def ferryref10_LoadLeft.f (a0 a1 a2 : Int) : Option Int := if 0 ≤ a0 ∧ a0 ≤ 4294967295 ∧ 0 ≤ a1 ∧ a1 ≤ 4294967295 then some (word4 (bytesLoadLeft (placeOf a2) a0 a1 0) (bytesLoadLeft (placeOf a2) a0 a1 1) (bytesLoadLeft (placeOf a2) a0 a1 2) (bytesLoadLeft (placeOf a2) a0 a1 3)) else none
theorem ferryref10_LoadLeft.calls (a0 a1 a2 : Int) (r : Int) (w : World) (h : ferryref10_LoadLeft.f a0 a1 a2 = some r) :
    Calls Tryd.prog 15 #[.int .u32 a0, .int .u32 a1, .int .i64 a2] w fun e w' => e = .returned (.int .u32 r) ∧ Below w.heap.size w w' := by
  unfold ferryref10_LoadLeft.f at h
  by_cases hc : 0 ≤ a0 ∧ a0 ≤ 4294967295 ∧ 0 ≤ a1 ∧ a1 ≤ 4294967295
  · rw [if_pos hc] at h
    obtain rfl := Option.some.inj h
    exact refLoadLeft_walk a0 a1 a2 (placeOf a2) (placeOf_lt a2) (place_of a2) hc.1 hc.2.1 hc.2.2.1 hc.2.2.2 (bytesLoadLeft (placeOf a2) a0 a1) rfl w
  · rw [if_neg hc] at h
    cases h
def bytesLoadRight (a : Nat) (o y : Int) : Nat → Int := fun i => if i < 3 - a then byteAt o i else byteAt y (i - (3 - a))
-- HAND fn=ferry/ferryref10.LoadRight ; rounds=0 ; making=1
def ferryref10_LoadRight.f (a0 a1 a2 : Int) : Option Int := if 0 ≤ a0 ∧ a0 ≤ 4294967295 ∧ 0 ≤ a1 ∧ a1 ≤ 4294967295 then some (word4 (bytesLoadRight (placeOf a2) a0 a1 0) (bytesLoadRight (placeOf a2) a0 a1 1) (bytesLoadRight (placeOf a2) a0 a1 2) (bytesLoadRight (placeOf a2) a0 a1 3)) else none
theorem ferryref10_LoadRight.calls (a0 a1 a2 : Int) (r : Int) (w : World) (h : ferryref10_LoadRight.f a0 a1 a2 = some r) :
    Calls Tryd.prog 17 #[.int .u32 a0, .int .u32 a1, .int .i64 a2] w fun e w' => e = .returned (.int .u32 r) ∧ Below w.heap.size w w' := by
  unfold ferryref10_LoadRight.f at h
  by_cases hc : 0 ≤ a0 ∧ a0 ≤ 4294967295 ∧ 0 ≤ a1 ∧ a1 ≤ 4294967295
  · rw [if_pos hc] at h
    obtain rfl := Option.some.inj h
    exact refLoadRight_walk a0 a1 a2 (placeOf a2) (placeOf_lt a2) (place_of a2) hc.1 hc.2.1 hc.2.2.1 hc.2.2.2 (bytesLoadRight (placeOf a2) a0 a1) rfl w
  · rw [if_neg hc] at h
    cases h
def bytesStoreLeft (a : Nat) (o y : Int) : Nat → Int := fun i => if i < a then byteAt o i else byteAt y (i - a)
-- HAND fn=ferry/ferryref10.StoreLeft ; rounds=0 ; making=1
def ferryref10_StoreLeft.f (a0 a1 a2 : Int) : Option Int := if 0 ≤ a0 ∧ a0 ≤ 4294967295 ∧ 0 ≤ a1 ∧ a1 ≤ 4294967295 then some (word4 (bytesStoreLeft (placeOf a2) a0 a1 0) (bytesStoreLeft (placeOf a2) a0 a1 1) (bytesStoreLeft (placeOf a2) a0 a1 2) (bytesStoreLeft (placeOf a2) a0 a1 3)) else none
theorem ferryref10_StoreLeft.calls (a0 a1 a2 : Int) (r : Int) (w : World) (h : ferryref10_StoreLeft.f a0 a1 a2 = some r) :
    Calls Tryd.prog 19 #[.int .u32 a0, .int .u32 a1, .int .i64 a2] w fun e w' => e = .returned (.int .u32 r) ∧ Below w.heap.size w w' := by
  unfold ferryref10_StoreLeft.f at h
  by_cases hc : 0 ≤ a0 ∧ a0 ≤ 4294967295 ∧ 0 ≤ a1 ∧ a1 ≤ 4294967295
  · rw [if_pos hc] at h
    obtain rfl := Option.some.inj h
    exact refStoreLeft_walk a0 a1 a2 (placeOf a2) (placeOf_lt a2) (place_of a2) hc.1 hc.2.1 hc.2.2.1 hc.2.2.2 (bytesStoreLeft (placeOf a2) a0 a1) rfl w
  · rw [if_neg hc] at h
    cases h
def bytesStoreRight (a : Nat) (o y : Int) : Nat → Int := fun i => if i ≤ a then byteAt y (3 - a + i) else byteAt o i
-- HAND fn=ferry/ferryref10.StoreRight ; rounds=0 ; making=1
def ferryref10_StoreRight.f (a0 a1 a2 : Int) : Option Int := if 0 ≤ a0 ∧ a0 ≤ 4294967295 ∧ 0 ≤ a1 ∧ a1 ≤ 4294967295 then some (word4 (bytesStoreRight (placeOf a2) a0 a1 0) (bytesStoreRight (placeOf a2) a0 a1 1) (bytesStoreRight (placeOf a2) a0 a1 2) (bytesStoreRight (placeOf a2) a0 a1 3)) else none
theorem ferryref10_StoreRight.calls (a0 a1 a2 : Int) (r : Int) (w : World) (h : ferryref10_StoreRight.f a0 a1 a2 = some r) :
    Calls Tryd.prog 21 #[.int .u32 a0, .int .u32 a1, .int .i64 a2] w fun e w' => e = .returned (.int .u32 r) ∧ Below w.heap.size w w' := by
  unfold ferryref10_StoreRight.f at h
  by_cases hc : 0 ≤ a0 ∧ a0 ≤ 4294967295 ∧ 0 ≤ a1 ∧ a1 ≤ 4294967295
  · rw [if_pos hc] at h
    obtain rfl := Option.some.inj h
    exact refStoreRight_walk a0 a1 a2 (placeOf a2) (placeOf_lt a2) (place_of a2) hc.1 hc.2.1 hc.2.2.1 hc.2.2.2 (bytesStoreRight (placeOf a2) a0 a1) rfl w
  · rw [if_neg hc] at h
    cases h
end Go.Proofs.YtommcnppgodhgaaDoor.F
