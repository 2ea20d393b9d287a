/- Package xlat: a guest's call, asked by its number. Condition: the table of blanks. -/
import Derived.Test.YtijghmpapmfndaaDoorHXlatCalls
import Derived.Test.YtijghmpapmfndaaDoorHXlatErr
namespace Go.Proofs.YtijghmpapmfndaaDoor.F
open Go.RowKit Go.Shelf Go.Proofs.YtijghmpapmfndaaDoorW.PrintWords Go.Proofs.YtijghmpapmfndaaDoorW.PrintLast Go.Proofs.YtijghmpapmfndaaDoorW.PrintMore
set_option linter.unusedVariables false
set_option linter.unusedSimpArgs false
set_option maxHeartbeats 4000000 in
/-- a closure: what it asks of an element -/
theorem of_is.calls (x : S39) (pe : Addr) (e : Int) (w : World) (hp : w.cell? pe = some (.int .u32 e)) (hlt : pe.block < w.heap.size) :
    Calls Tryd.prog 31 #[.agg #[.int .i64 x.f0.f0, .int .i64 x.f0.f1, .string x.f1], .pointer (some pe)] w fun ex w' => ex = .returned (.bool (x.f0.f0 % 4294967296 == e)) ∧ Below w.heap.size w w' := by
  go_enter Tryd.func31, Tryd.ntmps31
  go_wp2
  go_ret
  exact ⟨rfl, (Below.refl _ w).alloc (Nat.le_refl _) _⟩
def of_p (e : Int) (x : S39) : Bool := x.f0.f0 % 4294967296 == e
set_option maxHeartbeats 4000000 in
set_option maxRecDepth 100000 in
theorem of_idx.calls (A : Option Addr) (c : Nat) (l : List S39) (pe : Addr) (e : Int) (w : World) (hr : Kd.C k39 w A l.length l) (hc : l.length ≤ c) (hl : l.length ≤ 1000000) (hp : w.cell? pe = some (.int .u32 e)) (hpb : pe.block < w.heap.size) :
    Calls Tryd.prog 33 #[.slice A l.length c, .func (.func 31) #[] #[.pointer (some pe)]] w fun ex w' => ex = .returned (.int .i64 (idxOf (of_p e) l)) ∧ Below w.heap.size w w' := by
  have HE := Lib.hid (fun x w h h' => (show Calls Tryd.prog 31 _ _ fun ex w' => ex = .returned (.bool (of_p e x)) ∧ _ from of_is.calls x pe e w h h'))
  have HN := Lib.hid (fun h => idxOf_none (of_p e) l h)
  have HA := Lib.hid (fun k hk hn h => idxOf_at (of_p e) l k hk hn h)
  generalize idxOf (of_p e) l = R at HN HA ⊢
  generalize of_p e = P at HE HN HA
  have HR := Lib.hid hr
  clear hr
  go_enter Tryd.func33, Tryd.ntmps33
  go_wp2
  go_loopw [8] (fun t wr => ∃ k : Nat, t = .int .i64 k ∧ k ≤ l.length ∧ (∀ j (hj : j < l.length), j < k → P l[j] = false) ∧ Below w.heap.size w wr) (fun t _ => l.length - (intOf t).toNat)
  case atStart => exact ⟨0, rfl, Nat.zero_le _, fun j _ hj => by omega, Below.refl _ _⟩
  case round =>
    obtain ⟨k, rfl, hk, hn, hB⟩ := hrel
    by_cases hlt : k < l.length
    · obtain ⟨ad, rfl, c0, c1, c2⟩ := at_T39 (Kd.C_below HR.out hB) (k : Int) (by omega) (by omega)
      have hp' : wr.cell? pe = some (.int .u32 e) := (hB.cell hpb).trans hp
      have hx : rd_T39 l (k : Int) = l[k] := by
        unfold rd_T39
        simp [hlt]
      rw [hx, Int.toNat_natCast] at c0 c1 c2
      have hB' := Nat.lt_of_lt_of_le hpb hB.size
      have hn' := Lib.hid hn
      clear hn hx
      cases hb : P l[k]
      · go_wp2_with (go_at_call 31; (with_reducible refine (HE.out l[k] _ hp' hB').mono ?_); rintro ex w2 ⟨rfl, hb2⟩)
        refine ⟨⟨k + 1, by go_num, hlt, fun j hj hjk => ?_, hB.trans (hb2.mono hB.size)⟩, by simp [intOf]; omega⟩
        rcases Nat.lt_or_ge j k with h1 | h1
        · exact hn'.out j hj h1
        · obtain rfl : j = k := by omega
          exact hb
      · have hR := HA.out k hlt (fun j hj => hn'.out j (by omega) hj) hb
        subst hR
        go_wp2_with (go_at_call 31; (with_reducible refine (HE.out l[k] _ hp' hB').mono ?_); rintro ex w2 ⟨rfl, hb2⟩)
        go_ret
        exact ⟨rfl, hB.trans (hb2.mono hB.size)⟩
    · have e4 : k = l.length := by omega
      have hR := HN.out (fun x hx => by
        obtain ⟨j, hj, rfl⟩ := List.getElem_of_mem hx
        exact hn j hj (by omega))
      subst hR
      clear hn HA HN
      subst e4
      go_wp2
      go_ret
      exact ⟨rfl, hB⟩
set_option maxHeartbeats 4000000 in
set_option maxRecDepth 100000 in
/-- the first element that is as it is asked -/
theorem of_found.calls (A : Option Addr) (c : Nat) (l : List S39) (pe : Addr) (e : Int) (w : World) (hr : Kd.C k39 w A l.length l) (hc : l.length ≤ c) (hl : l.length ≤ 1000000) (hp : w.cell? pe = some (.int .u32 e)) (hpb : pe.block < w.heap.size) (x : S39) (b : Bool)
    (hx : foundOf (of_p e) z39 l = (x, b)) :
    Calls Tryd.prog 29 #[.slice A l.length c, .func (.func 31) #[] #[.pointer (some pe)]] w fun ex w' => ex = .returned (.tuple #[.agg #[.int .i64 x.f0.f0, .int .i64 x.f0.f1, .string x.f1], .bool b]) ∧ Below w.heap.size w w' := by
  have HI := Lib.hid (fun w hr hp hpb => of_idx.calls A c l pe e w hr hc hl hp hpb)
  have hF := idxOf_found (of_p e) z39 l
  rw [hx] at hF
  have HF := Lib.hid hF
  clear hF
  generalize idxOf (of_p e) l = i at HI HF
  have HR := Lib.hid hr
  clear hr hx
  have hb0 : Below w.heap.size w (w.alloc (.cells #[.int .i64 0, .int .i64 0, .string ⟨#[]⟩] 39)) := (Below.refl _ w).alloc (Nat.le_refl _) _
  have r0 := Lib.hid (Kd.C_below HR.out hb0)
  have r1 := Lib.hid ((hb0.cell hpb).trans hp)
  have r2 := Lib.hid (Nat.lt_of_lt_of_le hpb hb0.size)
  by_cases h0 : i < 0
  · obtain ⟨hx1, hx2⟩ := HF.out.1 h0
    dsimp only at hx1 hx2
    subst hx1 hx2
    have hd : decide (i ≥ 0) = false := decide_eq_false (by omega)
    have hd' : decide (0 ≤ i) = false := decide_eq_false (by omega)
    go_enter Tryd.func29, Tryd.ntmps29
    go_wp2_with (go_at_call 33; (with_reducible refine (HI.out _ r0.out r1.out r2.out).mono ?_); rintro ex w2 ⟨rfl, hb2⟩; have g0 : w2.heap[w.heap.size]? = some (.cells #[.int .i64 0, .int .i64 0, .string ⟨#[]⟩] 39 (0, 0)) := (hb2.block _ (by simp)).trans (World.alloc_heap_new w _); have s2 : w.heap.size < w2.heap.size := Nat.lt_of_lt_of_le (by simp) hb2.size; have hB := hb0.trans (hb2.mono hb0.size); have q0 : w2.cell? ⟨w.heap.size, 0, none⟩ = some (.int .i64 0) := (by unfold World.cell?; rw [g0]; rfl); have u0 : w2.frozen? ⟨w.heap.size, 0, none⟩ = false := (by unfold World.frozen?; rw [g0]; rfl); have q1 : w2.cell? ⟨w.heap.size, 1, none⟩ = some (.int .i64 0) := (by unfold World.cell?; rw [g0]; rfl); have u1 : w2.frozen? ⟨w.heap.size, 1, none⟩ = false := (by unfold World.frozen?; rw [g0]; rfl); have q2 : w2.cell? ⟨w.heap.size, 2, none⟩ = some (.string ⟨#[]⟩) := (by unfold World.cell?; rw [g0]; rfl); have u2 : w2.frozen? ⟨w.heap.size, 2, none⟩ = false := (by unfold World.frozen?; rw [g0]; rfl); have g1 := Lib.hid g0; clear g0)
    refine bodyPost_ret (results_ct rfl _ _ w.heap.size 39 #[.int .i64 0, .int .i64 0, .string ⟨#[]⟩] (0, 0) _ rfl ?_ Tryd.underlying39 rfl (by kernel_rfl) _ rfl) rfl ?_
    · refine blk_alloc ?_ _
      refine blk_put (cs := #[.int .i64 0, .int .i64 0, .string ⟨#[]⟩]) ?_ 2 _ rfl
      refine blk_put (cs := #[.int .i64 0, .int .i64 0, .string ⟨#[]⟩]) ?_ 1 _ rfl
      refine blk_put (cs := #[.int .i64 0, .int .i64 0, .string ⟨#[]⟩]) ?_ 0 _ rfl
      exact g1.out
    · exact ⟨rfl, Below.alloc (Below.setCell (p := ⟨w.heap.size, 2, none⟩) (Below.setCell (p := ⟨w.heap.size, 1, none⟩) (Below.setCell (p := ⟨w.heap.size, 0, none⟩) hB (Nat.le_refl _) _) (Nat.le_refl _) _) (Nat.le_refl _) _) (by simp [Deep.nblk_setCell]; omega) _⟩
  · obtain ⟨hx1, hx2⟩ := HF.out.2 h0
    dsimp only at hx1 hx2
    subst hx1
    have hd : decide (i ≥ 0) = true := decide_eq_true (by omega)
    have hd' : decide (0 ≤ i) = true := decide_eq_true (by omega)
    have hil : i.toNat < l.length := (List.getElem?_eq_some_iff.1 hx2).1
    have hi1 : 0 ≤ i := by omega
    have hi2 : i < l.length := by omega
    have hrd : rd_T39 l i = x := by
      unfold rd_T39
      rw [List.getD_eq_getElem?_getD, hx2]
      rfl
    have AT := Lib.hid (fun (w2 : World) (hB : Below w.heap.size w w2) => at_T39 (Kd.C_below HR.out hB) i hi1 hi2)
    rw [hrd] at AT
    clear hx2 hrd
    go_enter Tryd.func29, Tryd.ntmps29
    go_wp2_with (go_at_call 33; (with_reducible refine (HI.out _ r0.out r1.out r2.out).mono ?_); rintro ex w2 ⟨rfl, hb2⟩; have g0 : w2.heap[w.heap.size]? = some (.cells #[.int .i64 0, .int .i64 0, .string ⟨#[]⟩] 39 (0, 0)) := (hb2.block _ (by simp)).trans (World.alloc_heap_new w _); have s2 : w.heap.size < w2.heap.size := Nat.lt_of_lt_of_le (by simp) hb2.size; have hB := hb0.trans (hb2.mono hb0.size); have q0 : w2.cell? ⟨w.heap.size, 0, none⟩ = some (.int .i64 0) := (by unfold World.cell?; rw [g0]; rfl); have u0 : w2.frozen? ⟨w.heap.size, 0, none⟩ = false := (by unfold World.frozen?; rw [g0]; rfl); have q1 : w2.cell? ⟨w.heap.size, 1, none⟩ = some (.int .i64 0) := (by unfold World.cell?; rw [g0]; rfl); have u1 : w2.frozen? ⟨w.heap.size, 1, none⟩ = false := (by unfold World.frozen?; rw [g0]; rfl); have q2 : w2.cell? ⟨w.heap.size, 2, none⟩ = some (.string ⟨#[]⟩) := (by unfold World.cell?; rw [g0]; rfl); have u2 : w2.frozen? ⟨w.heap.size, 2, none⟩ = false := (by unfold World.frozen?; rw [g0]; rfl); obtain ⟨ad, rfl, c0, c1, c2⟩ := AT.out _ hB; have g1 := Lib.hid g0; clear g0)
    refine bodyPost_ret (results_ct rfl _ _ w.heap.size 39 #[.int .i64 x.f0.f0, .int .i64 x.f0.f1, .string x.f1] (0, 0) _ rfl ?_ Tryd.underlying39 rfl (by kernel_rfl) _ rfl) rfl ?_
    · refine blk_put (cs := #[.int .i64 x.f0.f0, .int .i64 x.f0.f1, .string ⟨#[]⟩]) ?_ 2 _ rfl
      refine blk_put (cs := #[.int .i64 x.f0.f0, .int .i64 0, .string ⟨#[]⟩]) ?_ 1 _ rfl
      refine blk_put (cs := #[.int .i64 0, .int .i64 0, .string ⟨#[]⟩]) ?_ 0 _ rfl
      exact g1.out
    · exact ⟨rfl, (Below.setCell (p := ⟨w.heap.size, 2, none⟩) (Below.setCell (p := ⟨w.heap.size, 1, none⟩) (Below.setCell (p := ⟨w.heap.size, 0, none⟩) hB (Nat.le_refl _) _) (Nat.le_refl _) _) (Nat.le_refl _) _)⟩
end Go.Proofs.YtijghmpapmfndaaDoor.F
