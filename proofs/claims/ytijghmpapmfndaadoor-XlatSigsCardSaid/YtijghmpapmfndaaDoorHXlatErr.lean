/- Package xlat: errors and signals, walked. No condition. -/
import Derived.Test.YtijghmpapmfndaaDoorHXlat
import Derived.Test.YtijghmpapmfndaaDoorFXlatErrors
import Derived.Test.YtijghmpapmfndaaDoorFXlatSignals
namespace Go.Proofs.YtijghmpapmfndaaDoor.F
open Go.RowKit Go.Shelf Go.Proofs.YtijghmpapmfndaaDoorW.PrintWords Go.Proofs.YtijghmpapmfndaaDoorW.PrintLast Go.Proofs.YtijghmpapmfndaaDoorW.PrintMore
set_option linter.unusedVariables false
set_option linter.unusedSimpArgs false
theorem cell_new1x (W : World) (v : Value) (t : TypeId) : (W.alloc (.cells #[v] t)).cell? ⟨W.heap.size, 0, none⟩ = some v := by
  rw [World.cell?_alloc_mark]
  rfl
def errList : List S36 := [⟨35, 45⟩, ⟨36, 78⟩, ⟨37, 46⟩, ⟨38, 89⟩, ⟨39, 93⟩, ⟨40, 90⟩, ⟨75, 79⟩]
def sigList : List S36 := [⟨1, 1⟩, ⟨2, 2⟩, ⟨3, 3⟩, ⟨4, 4⟩, ⟨5, 5⟩, ⟨6, 6⟩, ⟨7, 10⟩, ⟨8, 8⟩, ⟨9, 9⟩, ⟨10, 16⟩, ⟨11, 11⟩, ⟨12, 17⟩, ⟨13, 13⟩, ⟨14, 14⟩, ⟨15, 15⟩, ⟨17, 18⟩, ⟨18, 25⟩, ⟨19, 23⟩, ⟨20, 24⟩, ⟨21, 26⟩, ⟨22, 27⟩, ⟨23, 21⟩, ⟨24, 30⟩, ⟨25, 31⟩, ⟨26, 28⟩, ⟨27, 29⟩, ⟨28, 20⟩, ⟨29, 22⟩, ⟨30, 19⟩, ⟨31, 12⟩]
-- HAND fn=ferry/xlat.Err ; rounds=0 ; making=1
def xlat_Err.f (a0 : Int) : Option Int := some (if (foundOf (err_p a0) z36 errList).2 then (foundOf (err_p a0) z36 errList).1.f1 % 4294967296 else if a0 < 1 then 22 else if a0 > 34 then 22 else a0)
set_option maxHeartbeats 4000000 in
set_option maxRecDepth 100000 in
theorem xlat_Err.calls (a0 : Int) (r : Int) (w : World) (h : xlat_Err.f a0 = some r) :
    Calls Tryd.prog 11 #[.int .i64 a0] w fun ex w' => ex = .returned (.int .u32 r) ∧ Below w.heap.size w w' := by
  unfold xlat_Err.f at h
  obtain ⟨⟨x, b⟩, hx⟩ : ∃ y, foundOf (err_p a0) z36 errList = y := ⟨_, rfl⟩
  rw [hx] at h
  have ER := Lib.hid (fun w => xlat_errors.calls errList w rfl)
  have FD := Lib.hid (fun A c pe w hr hc hp hpb => err_found.calls A c errList pe a0 w hr hc (by decide) hp hpb x b hx)
  clear hx
  generalize errList = L at ER FD
  have hb0 : Below w.heap.size w (w.alloc (.cells #[.int .i64 a0] 2)) := (Below.refl _ w).alloc (Nat.le_refl _) _
  have C0 := Lib.hid (cell_new1x w (.int .i64 a0) 2)
  cases b
  · simp only [Bool.false_eq_true, if_false] at h
    by_cases h1 : a0 < 1
    · rw [if_pos h1] at h
      obtain rfl := Option.some.inj h
      have d1 : decide (a0 < 1) = true := decide_eq_true h1
      clear h
      go_enter Tryd.func11, Tryd.ntmps11
      go_wp2_with (first
        | (go_at_call 22; (with_reducible refine (ER.out _).mono ?_); rintro ex w1 ⟨v0, rfl, hR, hb1⟩; obtain ⟨A, c, rfl, hcl, hC⟩ := Kd.R_reads hR; have k1 := (hb1.cell (p := ⟨w.heap.size, 0, none⟩) (by simp)).trans C0.out; have k2 : w.heap.size < w1.heap.size := Nat.lt_of_lt_of_le (by simp) hb1.size; have hB1 := hb0.trans (hb1.mono hb0.size); clear hR)
        | (go_at_call 21; (with_reducible refine (FD.out A c ⟨w.heap.size, 0, none⟩ w1 hC hcl k1 k2).mono ?_); rintro ex w2 ⟨rfl, hb2⟩; have hB2 := hB1.trans (hb2.mono hB1.size); have k3 := (hb2.cell (p := ⟨w.heap.size, 0, none⟩) k2).trans k1; have k4 := Nat.lt_of_lt_of_le k2 hb2.size))
      
      go_ret
      exact ⟨rfl, hB2.alloc (Nat.le_of_lt k4) _⟩
    · rw [if_neg h1] at h
      have d1 : decide (a0 < 1) = false := decide_eq_false h1
      by_cases h2 : a0 > 34
      · rw [if_pos h2] at h
        obtain rfl := Option.some.inj h
        have d2 : decide (34 < a0) = true := decide_eq_true h2
        clear h
        go_enter Tryd.func11, Tryd.ntmps11
        go_wp2_with (first
          | (go_at_call 22; (with_reducible refine (ER.out _).mono ?_); rintro ex w1 ⟨v0, rfl, hR, hb1⟩; obtain ⟨A, c, rfl, hcl, hC⟩ := Kd.R_reads hR; have k1 := (hb1.cell (p := ⟨w.heap.size, 0, none⟩) (by simp)).trans C0.out; have k2 : w.heap.size < w1.heap.size := Nat.lt_of_lt_of_le (by simp) hb1.size; have hB1 := hb0.trans (hb1.mono hb0.size); clear hR)
          | (go_at_call 21; (with_reducible refine (FD.out A c ⟨w.heap.size, 0, none⟩ w1 hC hcl k1 k2).mono ?_); rintro ex w2 ⟨rfl, hb2⟩; have hB2 := hB1.trans (hb2.mono hB1.size); have k3 := (hb2.cell (p := ⟨w.heap.size, 0, none⟩) k2).trans k1; have k4 := Nat.lt_of_lt_of_le k2 hb2.size))
        
        go_ret
        exact ⟨rfl, hB2.alloc (Nat.le_of_lt k4) _⟩
      · rw [if_neg h2] at h
        obtain rfl := Option.some.inj h
        have d2 : decide (34 < a0) = false := decide_eq_false h2
        clear h
        go_enter Tryd.func11, Tryd.ntmps11
        go_wp2_with (first
          | (go_at_call 22; (with_reducible refine (ER.out _).mono ?_); rintro ex w1 ⟨v0, rfl, hR, hb1⟩; obtain ⟨A, c, rfl, hcl, hC⟩ := Kd.R_reads hR; have k1 := (hb1.cell (p := ⟨w.heap.size, 0, none⟩) (by simp)).trans C0.out; have k2 : w.heap.size < w1.heap.size := Nat.lt_of_lt_of_le (by simp) hb1.size; have hB1 := hb0.trans (hb1.mono hb0.size); clear hR)
          | (go_at_call 21; (with_reducible refine (FD.out A c ⟨w.heap.size, 0, none⟩ w1 hC hcl k1 k2).mono ?_); rintro ex w2 ⟨rfl, hb2⟩; have hB2 := hB1.trans (hb2.mono hB1.size); have k3 := (hb2.cell (p := ⟨w.heap.size, 0, none⟩) k2).trans k1; have k4 := Nat.lt_of_lt_of_le k2 hb2.size))
        
        go_ret
        exact ⟨rfl, hB2.alloc (Nat.le_of_lt k4) _⟩
  · simp only [if_true] at h
    obtain rfl := Option.some.inj h
    clear h
    go_enter Tryd.func11, Tryd.ntmps11
    go_wp2_with (first
      | (go_at_call 22; (with_reducible refine (ER.out _).mono ?_); rintro ex w1 ⟨v0, rfl, hR, hb1⟩; obtain ⟨A, c, rfl, hcl, hC⟩ := Kd.R_reads hR; have k1 := (hb1.cell (p := ⟨w.heap.size, 0, none⟩) (by simp)).trans C0.out; have k2 : w.heap.size < w1.heap.size := Nat.lt_of_lt_of_le (by simp) hb1.size; have hB1 := hb0.trans (hb1.mono hb0.size); clear hR)
      | (go_at_call 21; (with_reducible refine (FD.out A c ⟨w.heap.size, 0, none⟩ w1 hC hcl k1 k2).mono ?_); rintro ex w2 ⟨rfl, hb2⟩; have hB2 := hB1.trans (hb2.mono hB1.size); have k3 := (hb2.cell (p := ⟨w.heap.size, 0, none⟩) k2).trans k1; have k4 := Nat.lt_of_lt_of_le k2 hb2.size))
    
    go_ret
    exact ⟨rfl, hB2.alloc (Nat.le_of_lt k4) _⟩
-- HAND fn=ferry/xlat.Sig ; rounds=0 ; making=1
def xlat_Sig.f (a0 : Int) : Option (Int × Bool) := some ((foundOf (sig_p a0) z36 sigList).1.f1, (foundOf (sig_p a0) z36 sigList).2)
set_option maxHeartbeats 4000000 in
set_option maxRecDepth 100000 in
theorem xlat_Sig.calls (a0 : Int) (r1 : Int) (r2 : Bool) (w : World) (h : xlat_Sig.f a0 = some (r1, r2)) :
    Calls Tryd.prog 16 #[.int .i64 a0] w fun ex w' => ex = .returned (.tuple #[.int .i64 r1, .bool r2]) ∧ Below w.heap.size w w' := by
  unfold xlat_Sig.f at h
  obtain ⟨⟨x, b⟩, hx⟩ : ∃ y, foundOf (sig_p a0) z36 sigList = y := ⟨_, rfl⟩
  rw [hx] at h
  have ER := Lib.hid (fun w => xlat_signals.calls sigList w rfl)
  have FD := Lib.hid (fun A c pe w hr hc hp hpb => sig_found.calls A c sigList pe a0 w hr hc (by decide) hp hpb x b hx)
  clear hx
  generalize sigList = L at ER FD
  have hb0 : Below w.heap.size w (w.alloc (.cells #[.int .i64 a0] 3)) := (Below.refl _ w).alloc (Nat.le_refl _) _
  have C0 := Lib.hid (cell_new1x w (.int .i64 a0) 3)
  obtain ⟨rfl, rfl⟩ := Prod.mk.inj (Option.some.inj h)
  clear h
  go_enter Tryd.func16, Tryd.ntmps16
  go_wp2_with (first
    | (go_at_call 25; (with_reducible refine (ER.out _).mono ?_); rintro ex w1 ⟨v0, rfl, hR, hb1⟩; obtain ⟨A, c, rfl, hcl, hC⟩ := Kd.R_reads hR; have k1 := (hb1.cell (p := ⟨w.heap.size, 0, none⟩) (by simp)).trans C0.out; have k2 : w.heap.size < w1.heap.size := Nat.lt_of_lt_of_le (by simp) hb1.size; have hB1 := hb0.trans (hb1.mono hb0.size); clear hR)
    | (go_at_call 21; (with_reducible refine (FD.out A c ⟨w.heap.size, 0, none⟩ w1 hC hcl k1 k2).mono ?_); rintro ex w2 ⟨rfl, hb2⟩; have hB2 := hB1.trans (hb2.mono hB1.size); have k3 := (hb2.cell (p := ⟨w.heap.size, 0, none⟩) k2).trans k1; have k4 := Nat.lt_of_lt_of_le k2 hb2.size))
  
  go_ret2
  exact ⟨rfl, hB2.alloc (Nat.le_of_lt k4) _⟩
-- HAND fn=ferry/xlat.Back ; rounds=0 ; making=1
def xlat_Back.f (a0 : Int) : Option (Int × Bool) := some ((foundOf (back_p a0) z36 sigList).1.f0, (foundOf (back_p a0) z36 sigList).2)
set_option maxHeartbeats 4000000 in
set_option maxRecDepth 100000 in
theorem xlat_Back.calls (a0 : Int) (r1 : Int) (r2 : Bool) (w : World) (h : xlat_Back.f a0 = some (r1, r2)) :
    Calls Tryd.prog 18 #[.int .i64 a0] w fun ex w' => ex = .returned (.tuple #[.int .i64 r1, .bool r2]) ∧ Below w.heap.size w w' := by
  unfold xlat_Back.f at h
  obtain ⟨⟨x, b⟩, hx⟩ : ∃ y, foundOf (back_p a0) z36 sigList = y := ⟨_, rfl⟩
  rw [hx] at h
  have ER := Lib.hid (fun w => xlat_signals.calls sigList w rfl)
  have FD := Lib.hid (fun A c pe w hr hc hp hpb => back_found.calls A c sigList pe a0 w hr hc (by decide) hp hpb x b hx)
  clear hx
  generalize sigList = L at ER FD
  have hb0 : Below w.heap.size w (w.alloc (.cells #[.int .i64 a0] 3)) := (Below.refl _ w).alloc (Nat.le_refl _) _
  have C0 := Lib.hid (cell_new1x w (.int .i64 a0) 3)
  obtain ⟨rfl, rfl⟩ := Prod.mk.inj (Option.some.inj h)
  clear h
  go_enter Tryd.func18, Tryd.ntmps18
  go_wp2_with (first
    | (go_at_call 25; (with_reducible refine (ER.out _).mono ?_); rintro ex w1 ⟨v0, rfl, hR, hb1⟩; obtain ⟨A, c, rfl, hcl, hC⟩ := Kd.R_reads hR; have k1 := (hb1.cell (p := ⟨w.heap.size, 0, none⟩) (by simp)).trans C0.out; have k2 : w.heap.size < w1.heap.size := Nat.lt_of_lt_of_le (by simp) hb1.size; have hB1 := hb0.trans (hb1.mono hb0.size); clear hR)
    | (go_at_call 21; (with_reducible refine (FD.out A c ⟨w.heap.size, 0, none⟩ w1 hC hcl k1 k2).mono ?_); rintro ex w2 ⟨rfl, hb2⟩; have hB2 := hB1.trans (hb2.mono hB1.size); have k3 := (hb2.cell (p := ⟨w.heap.size, 0, none⟩) k2).trans k1; have k4 := Nat.lt_of_lt_of_le k2 hb2.size))
  
  go_ret2
  exact ⟨rfl, hB2.alloc (Nat.le_of_lt k4) _⟩
end Go.Proofs.YtijghmpapmfndaaDoor.F
