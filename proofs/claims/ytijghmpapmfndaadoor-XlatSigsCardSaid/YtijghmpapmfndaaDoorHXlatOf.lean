/- Package xlat: Ask and Name, walked. Condition: the table of blanks. -/
import Derived.Test.YtijghmpapmfndaaDoorHXlatAsk
namespace Go.Proofs.YtijghmpapmfndaaDoor.F
open Go.RowKit Go.Shelf Go.Proofs.YtijghmpapmfndaaDoorW.PrintWords Go.Proofs.YtijghmpapmfndaaDoorW.PrintLast Go.Proofs.YtijghmpapmfndaaDoorW.PrintMore
set_option linter.unusedVariables false
set_option linter.unusedSimpArgs false
theorem cell_alloc1y {W : World} {a : Addr} {v : Value} (o : Obj) (h : W.cell? a = some v) : (W.alloc o).cell? a = some v := pw_cell_below ((Below.refl _ W).alloc (Nat.le_refl _) o) h
set_option maxHeartbeats 4000000 in
set_option maxRecDepth 100000 in
theorem xlat_of.calls (a0 : Int) (x : S39) (b : Bool) (w : World) (hL : Laid w) (hx : foundOf (of_p a0) z39 callList = (x, b)) :
    Calls Tryd.prog 20 #[.int .u32 a0] w fun ex w' => ex = .returned (.tuple #[.agg #[.int .i64 x.f0.f0, .int .i64 x.f0.f1, .string x.f1], .bool b]) ∧ Below w.heap.size w w' := by
  have ER := Lib.hid (fun w hL => xlat_calls.calls callList w hL rfl)
  have FD := Lib.hid (fun A c pe w hr hc hp hpb => of_found.calls A c callList pe a0 w hr hc (by rw [callList_length]; decide) hp hpb x b hx)
  clear hx
  generalize callList = L at ER FD
  have hb0 : Below w.heap.size w (w.alloc (.cells #[.int .u32 a0] 22)) := (Below.refl _ w).alloc (Nat.le_refl _) _
  have C0 := Lib.hid (cell_new1x w (.int .u32 a0) 22)
  have hb00 : Below w.heap.size w ((w.alloc (.cells #[.int .u32 a0] 22)).alloc (.cells #[.int .i64 0, .int .i64 0, .string ⟨#[]⟩] 39)) := hb0.alloc (by simp) _
  have C1 := Lib.hid (cell_alloc1y (.cells #[.int .i64 0, .int .i64 0, .string ⟨#[]⟩] 39) C0.out)
  have R0 : ((w.alloc (.cells #[.int .u32 a0] 22)).alloc (.cells #[.int .i64 0, .int .i64 0, .string ⟨#[]⟩] 39)).heap[w.heap.size + 1]? = some (.cells #[.int .i64 0, .int .i64 0, .string ⟨#[]⟩] 39 (0, 0)) := by
    have h := World.alloc_heap_new (w.alloc (.cells #[.int .u32 a0] 22)) (.cells #[.int .i64 0, .int .i64 0, .string ⟨#[]⟩] 39)
    rwa [World.size_alloc] at h
  have R0' := Lib.hid R0
  clear R0
  have hL0 := Lib.hid (Laid.below hL hb00)
  go_enter Tryd.func20, Tryd.ntmps20
  go_wp2_with (first
    | (go_at_call 30; (with_reducible refine (ER.out _ hL0.out).mono ?_); rintro ex w1 ⟨v0, rfl, hR, hb1⟩; obtain ⟨A, c, rfl, hcl, hC⟩ := Kd.R_reads hR; have k1 := (hb1.cell (p := ⟨w.heap.size, 0, none⟩) (by simp; omega)).trans C1.out; have k2 : w.heap.size < w1.heap.size := Nat.lt_of_lt_of_le (by simp; omega) hb1.size; have hB1 := hb00.trans (hb1.mono hb00.size); have g1 := (hb1.block (w.heap.size + 1) (by simp)).trans R0'.out; have s1 : w.heap.size + 1 < w1.heap.size := Nat.lt_of_lt_of_le (by simp) hb1.size; clear hR)
    | (go_at_call 29; (with_reducible refine (FD.out A c ⟨w.heap.size, 0, none⟩ w1 hC hcl k1 k2).mono ?_); rintro ex w2 ⟨rfl, hb2⟩; have hB2 := hB1.trans (hb2.mono hB1.size); have g2 := (hb2.block (w.heap.size + 1) s1).trans g1; have q0 : w2.cell? ⟨w.heap.size + 1, 0, none⟩ = some (.int .i64 0) := (by unfold World.cell?; rw [g2]; rfl); have q1 : w2.cell? ⟨w.heap.size + 1, 1, none⟩ = some (.int .i64 0) := (by unfold World.cell?; rw [g2]; rfl); have q2 : w2.cell? ⟨w.heap.size + 1, 2, none⟩ = some (.string ⟨#[]⟩) := (by unfold World.cell?; rw [g2]; rfl); have u0 : w2.frozen? ⟨w.heap.size + 1, 0, none⟩ = false := (by unfold World.frozen?; rw [g2]; rfl); have u1 : w2.frozen? ⟨w.heap.size + 1, 1, none⟩ = false := (by unfold World.frozen?; rw [g2]; rfl); have u2 : w2.frozen? ⟨w.heap.size + 1, 2, none⟩ = false := (by unfold World.frozen?; rw [g2]; rfl); have G2 := Lib.hid g2; clear g1 g2))
  refine bodyPost_ret (results_ct rfl _ _ (w.heap.size + 1) 39 #[.int .i64 x.f0.f0, .int .i64 x.f0.f1, .string x.f1] (0, 0) _ rfl ?_ Tryd.underlying39 rfl (by kernel_rfl) _ rfl) rfl ?_
  · refine blk_put (cs := #[.int .i64 x.f0.f0, .int .i64 x.f0.f1, .string ⟨#[]⟩]) ?_ 2 _ rfl
    refine blk_put (cs := #[.int .i64 x.f0.f0, .int .i64 0, .string ⟨#[]⟩]) ?_ 1 _ rfl
    refine blk_put (cs := #[.int .i64 0, .int .i64 0, .string ⟨#[]⟩]) ?_ 0 _ rfl
    exact G2.out
  · exact ⟨rfl, ((hB2.setCell (p := ⟨w.heap.size + 1, 0, none⟩) (Nat.le_succ _) _).setCell (p := ⟨w.heap.size + 1, 1, none⟩) (Nat.le_succ _) _).setCell (p := ⟨w.heap.size + 1, 2, none⟩) (Nat.le_succ _) _⟩
-- HAND fn=ferry/xlat.Name ; rounds=0 ; making=1 ; laid=1
def xlat_Name.f (a0 : Int) : Option ByteArray := some (foundOf (of_p a0) z39 callList).1.f1
set_option maxHeartbeats 4000000 in
set_option maxRecDepth 100000 in
theorem xlat_Name.calls (a0 : Int) (r : ByteArray) (w : World) (hL : Laid w) (h : xlat_Name.f a0 = some r) :
    Calls Tryd.prog 13 #[.int .u32 a0] w fun ex w' => ex = .returned (.string r) ∧ Below w.heap.size w w' := by
  unfold xlat_Name.f at h
  obtain ⟨⟨x, b⟩, hx⟩ : ∃ y, foundOf (of_p a0) z39 callList = y := ⟨_, rfl⟩
  rw [hx] at h
  obtain rfl := Option.some.inj h
  have OF := Lib.hid (fun w hL => xlat_of.calls a0 x b w hL hx)
  clear h hx
  go_enter Tryd.func13, Tryd.ntmps13
  go_wp2_with (go_at_call 20; (with_reducible refine (OF.out _ hL).mono ?_); rintro ex w1 ⟨rfl, hb1⟩)
  go_ret
  exact ⟨rfl, hb1.alloc hb1.size _⟩
-- HAND fn=ferry/xlat.Ask ; rounds=0 ; making=1 ; laid=1
def xlat_Ask.f (a0 : Int) : Option (Int × Bool) := some (if (foundOf (of_p a0) z39 callList).2 = true ∧ 0 ≤ (foundOf (of_p a0) z39 callList).1.f0.f1 then ((foundOf (of_p a0) z39 callList).1.f0.f1, true) else (0, false))
set_option maxHeartbeats 4000000 in
set_option maxRecDepth 100000 in
theorem xlat_Ask.calls (a0 : Int) (r1 : Int) (r2 : Bool) (w : World) (hL : Laid w) (h : xlat_Ask.f a0 = some (r1, r2)) :
    Calls Tryd.prog 9 #[.int .u32 a0] w fun ex w' => ex = .returned (.tuple #[.int .i64 r1, .bool r2]) ∧ Below w.heap.size w w' := by
  unfold xlat_Ask.f at h
  obtain ⟨⟨x, b⟩, hx⟩ : ∃ y, foundOf (of_p a0) z39 callList = y := ⟨_, rfl⟩
  rw [hx] at h
  have OF := Lib.hid (fun w hL => xlat_of.calls a0 x b w hL hx)
  clear hx
  dsimp only at h
  cases b
  · rw [if_neg (by simp)] at h
    obtain ⟨rfl, rfl⟩ := Prod.mk.inj (Option.some.inj h)
    clear h
    go_enter Tryd.func9, Tryd.ntmps9
    go_wp2_with (go_at_call 20; (with_reducible refine (OF.out _ hL).mono ?_); rintro ex w1 ⟨rfl, hb1⟩)
    go_ret2
    exact ⟨rfl, hb1.alloc hb1.size _⟩
  · by_cases h0 : 0 ≤ x.f0.f1
    · rw [if_pos ⟨rfl, h0⟩] at h
      obtain ⟨rfl, rfl⟩ := Prod.mk.inj (Option.some.inj h)
      have d : decide (0 ≤ x.f0.f1) = true := decide_eq_true h0
      clear h
      go_enter Tryd.func9, Tryd.ntmps9
      go_wp2_with (go_at_call 20; (with_reducible refine (OF.out _ hL).mono ?_); rintro ex w1 ⟨rfl, hb1⟩)
      go_ret2
      exact ⟨rfl, hb1.alloc hb1.size _⟩
    · rw [if_neg (fun h => h0 h.2)] at h
      obtain ⟨rfl, rfl⟩ := Prod.mk.inj (Option.some.inj h)
      have d : decide (0 ≤ x.f0.f1) = false := decide_eq_false h0
      clear h
      go_enter Tryd.func9, Tryd.ntmps9
      go_wp2_with (go_at_call 20; (with_reducible refine (OF.out _ hL).mono ?_); rintro ex w1 ⟨rfl, hb1⟩)
      go_ret2
      exact ⟨rfl, hb1.alloc hb1.size _⟩
end Go.Proofs.YtijghmpapmfndaaDoor.F
