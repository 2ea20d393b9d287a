/- The document's signals, walked: a slice of arrays. No condition. -/
import Derived.Test.YtijghmpapmfndaaDoorHXlatErr
namespace Go.Proofs.YtijghmpapmfndaaDoor.F
open Go.RowKit Go.Shelf Go.Proofs.YtijghmpapmfndaaDoorW.PrintWords Go.Proofs.YtijghmpapmfndaaDoorW.PrintLast Go.Proofs.YtijghmpapmfndaaDoorW.PrintMore
set_option linter.unusedVariables false
set_option linter.unusedSimpArgs false
def sigNums : List Int := [1, 1, 2, 2, 3, 3, 4, 4, 5, 5, 6, 6, 7, 10, 8, 8, 9, 9, 10, 16, 11, 11, 12, 17, 13, 13, 14, 14, 15, 15, 17, 18, 18, 25, 19, 23, 20, 24, 21, 26, 22, 27, 23, 21, 24, 30, 25, 31, 26, 28, 27, 29, 28, 20, 29, 22, 30, 19, 31, 12]
def sigCells : Array Value := (sigNums.map (Value.int .i64)).toArray
set_option maxHeartbeats 8000000 in
set_option maxRecDepth 100000 in
theorem ref_signals.calls (w : World) :
    Calls Tryd.prog 27 #[] w fun e w' => e = .returned (.slice (some ⟨w.heap.size, 0, none⟩) 30 30) ∧ w' = w.alloc (.cells sigCells 48) := by
  go_enter Tryd.func27, Tryd.ntmps27
  go_wp2
  go_ret
  exact ⟨rfl, rfl⟩
theorem sig_cells_at : (List.range 30).all (fun k => sigNums[k * 2]? == some ((sigList[k]?.map (·.f0)).getD 0) && sigNums[k * 2 + 1]? == some ((sigList[k]?.map (·.f1)).getD 0)) = true := by decide +kernel
theorem sig_length : sigList.length = 30 := rfl
theorem sig_cell (w : World) (k : Nat) (h : k < 30) : (w.alloc (.cells sigCells 48)).cell? ⟨w.heap.size, k * 2, none⟩ = some (.int .i64 (sigList[k]'(by rw [sig_length]; exact h)).f0) ∧ (w.alloc (.cells sigCells 48)).cell? ⟨w.heap.size, k * 2 + 1, none⟩ = some (.int .i64 (sigList[k]'(by rw [sig_length]; exact h)).f1) := by
  have hh := List.all_eq_true.1 sig_cells_at k (List.mem_range.2 h)
  simp only [Bool.and_eq_true, beq_iff_eq] at hh
  have hx : sigList[k]? = some (sigList[k]'(by rw [sig_length]; exact h)) := List.getElem?_eq_getElem _
  rw [hx] at hh
  have hg := World.alloc_heap_new w (.cells sigCells 48)
  constructor
  · unfold World.cell?
    rw [show (w.alloc (.cells sigCells 48)).heap[(Addr.mk w.heap.size (k * 2) none).block]? = _ from hg]
    simp [sigCells, hh.1]
  · unfold World.cell?
    rw [show (w.alloc (.cells sigCells 48)).heap[(Addr.mk w.heap.size (k * 2 + 1) none).block]? = _ from hg]
    simp [sigCells, hh.2]
-- HAND fn=ferry/ferryref24.Sig ; rounds=0 ; making=1
def ferryref24_Sig.f (a0 : Int) : Option (Int × Bool) := some ((foundOf (sig_p a0) z36 sigList).1.f1, (foundOf (sig_p a0) z36 sigList).2)
set_option maxHeartbeats 8000000 in
set_option maxRecDepth 100000 in
theorem ferryref24_Sig.calls (a0 : Int) (r1 : Int) (r2 : Bool) (w : World) (h : ferryref24_Sig.f a0 = some (r1, r2)) :
    Calls Tryd.prog 17 #[.int .i64 a0] w fun e w' => e = .returned (.tuple #[.int .i64 r1, .bool r2]) ∧ Below w.heap.size w w' := by
  unfold ferryref24_Sig.f at h
  have hi := idxOf_found (sig_p a0) z36 sigList
  have HN := Lib.hid (fun h => idxOf_none (sig_p a0) sigList h)
  have HA := Lib.hid (fun k hk hn h => idxOf_at (sig_p a0) sigList k hk hn h)
  have SG := Lib.hid (fun w => ref_signals.calls w)
  have CL := Lib.hid (fun k h => sig_cell w k h)
  have hp : ∀ x : S36, (sig_p a0 x) = (x.f0 == a0) := fun x => rfl
  have HP := Lib.hid hp
  have hb0 : Below w.heap.size w (w.alloc (.cells sigCells 48)) := (Below.refl _ w).alloc (Nat.le_refl _) _
  obtain ⟨⟨y, b⟩, hy⟩ : ∃ y, foundOf (sig_p a0) z36 sigList = y := ⟨_, rfl⟩
  rw [hy] at h hi
  have HI := Lib.hid hi
  obtain ⟨rfl, rfl⟩ := Prod.mk.inj (Option.some.inj h)
  clear h hi hy hp
  have HS := Lib.hid sig_length
  generalize sig_p a0 = P at HN HA HP HI
  go_enter Tryd.func17, Tryd.ntmps17
  go_wp2_with (go_at_call 27; (with_reducible refine (SG.out _).mono ?_); rintro ex w1 ⟨rfl, rfl⟩)
  go_loopw [5] (fun t wr => ∃ k : Nat, t = .int .i64 k ∧ k ≤ 30 ∧ (∀ j (hj : j < sigList.length), j < k → P sigList[j] = false) ∧ wr = w.alloc (.cells sigCells 48)) (fun t _ => 30 - (intOf t).toNat)
  case atStart => exact ⟨0, rfl, Nat.zero_le _, fun j _ hj => by omega, rfl⟩
  case round =>
    obtain ⟨k, rfl, hk, hn, rfl⟩ := hrel
    by_cases hlt : k < 30
    · obtain ⟨c0, c1⟩ := CL.out k hlt
      have hkl : k < sigList.length := by rw [HS.out]; exact hlt
      obtain ⟨x, hx⟩ : ∃ x, sigList[k] = x := ⟨_, rfl⟩
      rw [hx] at c0 c1
      have HX := Lib.hid hx
      have hn' := Lib.hid hn
      clear hn hx
      cases hb : P x
      · have hb' := (HP.out x).symm.trans hb
        go_wp2
        refine ⟨⟨k + 1, by go_num, hlt, fun j hj hjk => ?_, by first | trivial | rfl⟩, by simp [intOf]; omega⟩
        rcases Nat.lt_or_ge j k with h1 | h1
        · exact hn'.out j hj h1
        · obtain rfl : j = k := by omega
          rw [HX.out]
          exact hb
      · have hb' := (HP.out x).symm.trans hb
        have hR := HA.out k hkl (fun j hj => hn'.out j (by omega) hj) (by rw [HX.out]; exact hb)
        have h0 := HI.out.2 (by rw [hR]; omega)
        rw [hR, Int.toNat_natCast, List.getElem?_eq_getElem hkl, HX.out] at h0
        obtain rfl := h0.1
        obtain rfl := Option.some.inj h0.2
        clear h0 hR
        go_wp2
        go_ret2
        exact ⟨rfl, hb0⟩
    · have e4 : k = 30 := by omega
      have hR := HN.out (fun x hx => by
        obtain ⟨j, hj, rfl⟩ := List.getElem_of_mem hx
        exact hn j hj (by rw [HS.out] at hj; omega))
      have h0 := HI.out.1 (by rw [hR]; decide)
      obtain ⟨rfl, rfl⟩ := h0
      clear hn hR
      subst e4
      go_wp2
      go_ret2
      exact ⟨rfl, hb0⟩
-- HAND fn=ferry/ferryref24.Back ; rounds=0 ; making=1
def ferryref24_Back.f (a0 : Int) : Option (Int × Bool) := some ((foundOf (back_p a0) z36 sigList).1.f0, (foundOf (back_p a0) z36 sigList).2)
set_option maxHeartbeats 8000000 in
set_option maxRecDepth 100000 in
theorem ferryref24_Back.calls (a0 : Int) (r1 : Int) (r2 : Bool) (w : World) (h : ferryref24_Back.f a0 = some (r1, r2)) :
    Calls Tryd.prog 19 #[.int .i64 a0] w fun e w' => e = .returned (.tuple #[.int .i64 r1, .bool r2]) ∧ Below w.heap.size w w' := by
  unfold ferryref24_Back.f at h
  have hi := idxOf_found (back_p a0) z36 sigList
  have HN := Lib.hid (fun h => idxOf_none (back_p a0) sigList h)
  have HA := Lib.hid (fun k hk hn h => idxOf_at (back_p a0) sigList k hk hn h)
  have SG := Lib.hid (fun w => ref_signals.calls w)
  have CL := Lib.hid (fun k h => sig_cell w k h)
  have hp : ∀ x : S36, (back_p a0 x) = (x.f1 == a0) := fun x => rfl
  have HP := Lib.hid hp
  have hb0 : Below w.heap.size w (w.alloc (.cells sigCells 48)) := (Below.refl _ w).alloc (Nat.le_refl _) _
  obtain ⟨⟨y, b⟩, hy⟩ : ∃ y, foundOf (back_p a0) z36 sigList = y := ⟨_, rfl⟩
  rw [hy] at h hi
  have HI := Lib.hid hi
  obtain ⟨rfl, rfl⟩ := Prod.mk.inj (Option.some.inj h)
  clear h hi hy hp
  have HS := Lib.hid sig_length
  generalize back_p a0 = P at HN HA HP HI
  go_enter Tryd.func19, Tryd.ntmps19
  go_wp2_with (go_at_call 27; (with_reducible refine (SG.out _).mono ?_); rintro ex w1 ⟨rfl, rfl⟩)
  go_loopw [5] (fun t wr => ∃ k : Nat, t = .int .i64 k ∧ k ≤ 30 ∧ (∀ j (hj : j < sigList.length), j < k → P sigList[j] = false) ∧ wr = w.alloc (.cells sigCells 48)) (fun t _ => 30 - (intOf t).toNat)
  case atStart => exact ⟨0, rfl, Nat.zero_le _, fun j _ hj => by omega, rfl⟩
  case round =>
    obtain ⟨k, rfl, hk, hn, rfl⟩ := hrel
    by_cases hlt : k < 30
    · obtain ⟨c0, c1⟩ := CL.out k hlt
      have hkl : k < sigList.length := by rw [HS.out]; exact hlt
      obtain ⟨x, hx⟩ : ∃ x, sigList[k] = x := ⟨_, rfl⟩
      rw [hx] at c0 c1
      have HX := Lib.hid hx
      have hn' := Lib.hid hn
      clear hn hx
      cases hb : P x
      · have hb' := (HP.out x).symm.trans hb
        go_wp2
        refine ⟨⟨k + 1, by go_num, hlt, fun j hj hjk => ?_, by first | trivial | rfl⟩, by simp [intOf]; omega⟩
        rcases Nat.lt_or_ge j k with h1 | h1
        · exact hn'.out j hj h1
        · obtain rfl : j = k := by omega
          rw [HX.out]
          exact hb
      · have hb' := (HP.out x).symm.trans hb
        have hR := HA.out k hkl (fun j hj => hn'.out j (by omega) hj) (by rw [HX.out]; exact hb)
        have h0 := HI.out.2 (by rw [hR]; omega)
        rw [hR, Int.toNat_natCast, List.getElem?_eq_getElem hkl, HX.out] at h0
        obtain rfl := h0.1
        obtain rfl := Option.some.inj h0.2
        clear h0 hR
        go_wp2
        go_ret2
        exact ⟨rfl, hb0⟩
    · have e4 : k = 30 := by omega
      have hR := HN.out (fun x hx => by
        obtain ⟨j, hj, rfl⟩ := List.getElem_of_mem hx
        exact hn j hj (by rw [HS.out] at hj; omega))
      have h0 := HI.out.1 (by rw [hR]; decide)
      obtain ⟨rfl, rfl⟩ := h0
      clear hn hR
      subst e4
      go_wp2
      go_ret2
      exact ⟨rfl, hb0⟩
end Go.Proofs.YtijghmpapmfndaaDoor.F
