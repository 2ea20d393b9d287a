/- Package xlat: the first row of a list that is as it is asked. No condition. -/
import Derived.WalkKit
import Derived.OwnWalkIn
import Derived.WalkSmall
import Derived.Laws.ResultCell
import Derived.RangeFuncRecord
import Derived.ProofKit
import Derived.Lib.Hide
import Derived.Shelf.RegionOpen
import Derived.Shelf.Abstract
import Derived.Test.YtijghmpapmfndaaDoorF0
namespace Go.Proofs.YtijghmpapmfndaaDoor.F
open Go.RowKit Go.Shelf Go.Proofs.YtijghmpapmfndaaDoorW.PrintWords Go.Proofs.YtijghmpapmfndaaDoorW.PrintLast Go.Proofs.YtijghmpapmfndaaDoorW.PrintMore
set_option linter.unusedVariables false
set_option linter.unusedSimpArgs false

/-- the first place where a list is as it is asked, or -1 -/
def idxOf {α : Type} (p : α → Bool) : List α → Int
  | [] => -1
  | x :: l => if p x then 0 else (if idxOf p l < 0 then -1 else idxOf p l + 1)
theorem idxOf_none {α : Type} (p : α → Bool) : ∀ (l : List α), (∀ x ∈ l, p x = false) → idxOf p l = -1
  | [], _ => rfl
  | x :: l, h => by
    unfold idxOf
    rw [h x List.mem_cons_self, idxOf_none p l (fun y hy => h y (List.mem_cons_of_mem _ hy))]
    rfl
theorem idxOf_at {α : Type} (p : α → Bool) : ∀ (l : List α) (k : Nat) (hk : k < l.length), (∀ j (hj : j < k), p (l[j]'(by omega)) = false) → p l[k] = true → idxOf p l = k
  | x :: l, 0, _, _, h => by
    unfold idxOf
    exact if_pos h
  | x :: l, k + 1, hk, hn, h => by
    unfold idxOf
    have h0 : p x = false := hn 0 (by omega)
    have ih := idxOf_at p l k (by simpa using hk) (fun j hj => hn (j + 1) (by omega)) h
    rw [h0, ih, if_neg (by simp), if_neg (by omega)]
    omega
/-- the first element that is as it is asked, and whether there is one -/
def foundOf {α : Type} (p : α → Bool) (z : α) : List α → α × Bool
  | [] => (z, false)
  | x :: l => if p x then (x, true) else foundOf p z l
theorem idxOf_found {α : Type} (p : α → Bool) (z : α) : ∀ (l : List α), (idxOf p l < 0 → (foundOf p z l).1 = z ∧ (foundOf p z l).2 = false) ∧ (¬ idxOf p l < 0 → (foundOf p z l).2 = true ∧ l[(idxOf p l).toNat]? = some (foundOf p z l).1)
  | [] => ⟨fun _ => ⟨rfl, rfl⟩, fun h => absurd (show (-1 : Int) < 0 by decide) h⟩
  | y :: l => by
    have ih := idxOf_found p z l
    unfold idxOf foundOf
    by_cases hy : p y = true
    · rw [if_pos hy, if_pos hy]
      exact ⟨fun h => absurd h (by decide), fun _ => ⟨rfl, rfl⟩⟩
    · rw [if_neg hy, if_neg hy]
      by_cases hi : idxOf p l < 0
      · rw [if_pos hi]
        exact ⟨fun _ => ih.1 hi, fun h => absurd (by decide) h⟩
      · rw [if_neg hi]
        have e : (idxOf p l + 1).toNat = (idxOf p l).toNat + 1 := by omega
        refine ⟨fun h => absurd h (by omega), fun _ => ⟨(ih.2 hi).1, ?_⟩⟩
        rw [e, List.getElem?_cons_succ]
        exact (ih.2 hi).2
theorem results_ct {P : Program} {fn : Func} {p u : Tmp} {ty : TypeId} (h : fn.results = #[.cell p ty, .tmp u]) (tmps : Array Value) (w : World) (g : Nat) (t : TypeId) (cs : Array Value) (fr : Nat × Nat) (d : TypeDesc)
    (hp : tmps.getD p undef = .pointer (some ⟨g, 0, none⟩)) (hg : w.heap[g]? = some (.cells cs t fr))
    (hu : P.underlying ty = some d) (hd : (match d with | .struct _ | .array _ _ => true | _ => false) = true) (hi : (P.info? ty).map (·.size) = some cs.size) (v : Value) (hv : tmps.getD u undef = v) :
    (results fn tmps).run P w = .ok (.tuple #[.agg cs, v]) w := by
  have hp' : tmps[p]?.getD undef = .pointer (some ⟨g, 0, none⟩) := by simpa using hp
  have hv' : tmps[u]?.getD undef = v := by simpa using hv
  rw [results_cell_tmp h]
  simp [hp', hv', asAddr, run_loadVar_row w g t ty cs fr d hg hu hd hi, Result.andThen]
set_option maxHeartbeats 4000000 in
/-- a closure: what it asks of an element -/
theorem err_is.calls (x : S36) (pe : Addr) (e : Int) (w : World) (hp : w.cell? pe = some (.int .i64 e)) (hlt : pe.block < w.heap.size) :
    Calls Tryd.prog 23 #[.agg #[.int .i64 x.f0, .int .i64 x.f1], .pointer (some pe)] w fun ex w' => ex = .returned (.bool (x.f0 == e)) ∧ Below w.heap.size w w' := by
  go_enter Tryd.func23, Tryd.ntmps23
  go_wp2
  go_ret
  exact ⟨rfl, (Below.refl _ w).alloc (Nat.le_refl _) _⟩
def err_p (e : Int) (x : S36) : Bool := x.f0 == e
set_option maxHeartbeats 4000000 in
set_option maxRecDepth 100000 in
theorem err_idx.calls (A : Option Addr) (c : Nat) (l : List S36) (pe : Addr) (e : Int) (w : World) (hr : Kd.C k36 w A l.length l) (hc : l.length ≤ c) (hl : l.length ≤ 1000000) (hp : w.cell? pe = some (.int .i64 e)) (hpb : pe.block < w.heap.size) :
    Calls Tryd.prog 32 #[.slice A l.length c, .func (.func 23) #[] #[.pointer (some pe)]] w fun ex w' => ex = .returned (.int .i64 (idxOf (err_p e) l)) ∧ Below w.heap.size w w' := by
  have HE := Lib.hid (fun x w h h' => (show Calls Tryd.prog 23 _ _ fun ex w' => ex = .returned (.bool (err_p e x)) ∧ _ from err_is.calls x pe e w h h'))
  have HN := Lib.hid (fun h => idxOf_none (err_p e) l h)
  have HA := Lib.hid (fun k hk hn h => idxOf_at (err_p e) l k hk hn h)
  generalize idxOf (err_p e) l = R at HN HA ⊢
  generalize err_p e = P at HE HN HA
  have HR := Lib.hid hr
  clear hr
  go_enter Tryd.func32, Tryd.ntmps32
  go_wp2
  go_loopw [8] (fun t wr => ∃ k : Nat, t = .int .i64 k ∧ k ≤ l.length ∧ (∀ j (hj : j < l.length), j < k → P l[j] = false) ∧ Below w.heap.size w wr) (fun t _ => l.length - (intOf t).toNat)
  case atStart => exact ⟨0, rfl, Nat.zero_le _, fun j _ hj => by omega, Below.refl _ _⟩
  case round =>
    obtain ⟨k, rfl, hk, hn, hB⟩ := hrel
    by_cases hlt : k < l.length
    · obtain ⟨ad, rfl, c0, c1⟩ := at_T36 (Kd.C_below HR.out hB) (k : Int) (by omega) (by omega)
      have hp' : wr.cell? pe = some (.int .i64 e) := (hB.cell hpb).trans hp
      have hx : rd_T36 l (k : Int) = l[k] := by
        unfold rd_T36
        simp [hlt]
      rw [hx, Int.toNat_natCast] at c0 c1
      have hB' := Nat.lt_of_lt_of_le hpb hB.size
      have hn' := Lib.hid hn
      clear hn hx
      cases hb : P l[k]
      · go_wp2_with (go_at_call 23; (with_reducible refine (HE.out l[k] _ hp' hB').mono ?_); rintro ex w2 ⟨rfl, hb2⟩)
        refine ⟨⟨k + 1, by go_num, hlt, fun j hj hjk => ?_, hB.trans (hb2.mono hB.size)⟩, by simp [intOf]; omega⟩
        rcases Nat.lt_or_ge j k with h1 | h1
        · exact hn'.out j hj h1
        · obtain rfl : j = k := by omega
          exact hb
      · have hR := HA.out k hlt (fun j hj => hn'.out j (by omega) hj) hb
        subst hR
        go_wp2_with (go_at_call 23; (with_reducible refine (HE.out l[k] _ hp' hB').mono ?_); rintro ex w2 ⟨rfl, hb2⟩)
        go_ret
        exact ⟨rfl, hB.trans (hb2.mono hB.size)⟩
    · have e4 : k = l.length := by omega
      have hR := HN.out (fun x hx => by
        obtain ⟨j, hj, rfl⟩ := List.getElem_of_mem hx
        exact hn j hj (by omega))
      subst hR
      clear hn HA HN
      subst e4
      go_wp2
      go_ret
      exact ⟨rfl, hB⟩
set_option maxHeartbeats 4000000 in
set_option maxRecDepth 100000 in
/-- the first element that is as it is asked -/
theorem err_found.calls (A : Option Addr) (c : Nat) (l : List S36) (pe : Addr) (e : Int) (w : World) (hr : Kd.C k36 w A l.length l) (hc : l.length ≤ c) (hl : l.length ≤ 1000000) (hp : w.cell? pe = some (.int .i64 e)) (hpb : pe.block < w.heap.size) (x : S36) (b : Bool)
    (hx : foundOf (err_p e) z36 l = (x, b)) :
    Calls Tryd.prog 21 #[.slice A l.length c, .func (.func 23) #[] #[.pointer (some pe)]] w fun ex w' => ex = .returned (.tuple #[.agg #[.int .i64 x.f0, .int .i64 x.f1], .bool b]) ∧ Below w.heap.size w w' := by
  have HI := Lib.hid (fun w hr hp hpb => err_idx.calls A c l pe e w hr hc hl hp hpb)
  have hF := idxOf_found (err_p e) z36 l
  rw [hx] at hF
  have HF := Lib.hid hF
  clear hF
  generalize idxOf (err_p e) l = i at HI HF
  have HR := Lib.hid hr
  clear hr hx
  have hb0 : Below w.heap.size w (w.alloc (.cells #[.int .i64 0, .int .i64 0] 36)) := (Below.refl _ w).alloc (Nat.le_refl _) _
  have r0 := Lib.hid (Kd.C_below HR.out hb0)
  have r1 := Lib.hid ((hb0.cell hpb).trans hp)
  have r2 := Lib.hid (Nat.lt_of_lt_of_le hpb hb0.size)
  by_cases h0 : i < 0
  · obtain ⟨hx1, hx2⟩ := HF.out.1 h0
    dsimp only at hx1 hx2
    subst hx1 hx2
    have hd : decide (i ≥ 0) = false := decide_eq_false (by omega)
    have hd' : decide (0 ≤ i) = false := decide_eq_false (by omega)
    go_enter Tryd.func21, Tryd.ntmps21
    go_wp2_with (go_at_call 32; (with_reducible refine (HI.out _ r0.out r1.out r2.out).mono ?_); rintro ex w2 ⟨rfl, hb2⟩; have g0 : w2.heap[w.heap.size]? = some (.cells #[.int .i64 0, .int .i64 0] 36 (0, 0)) := (hb2.block _ (by simp)).trans (World.alloc_heap_new w _); have s2 : w.heap.size < w2.heap.size := Nat.lt_of_lt_of_le (by simp) hb2.size; have hB := hb0.trans (hb2.mono hb0.size); have q0 : w2.cell? ⟨w.heap.size, 0, none⟩ = some (.int .i64 0) := (by unfold World.cell?; rw [g0]; rfl); have u0 : w2.frozen? ⟨w.heap.size, 0, none⟩ = false := (by unfold World.frozen?; rw [g0]; rfl); have q1 : w2.cell? ⟨w.heap.size, 1, none⟩ = some (.int .i64 0) := (by unfold World.cell?; rw [g0]; rfl); have u1 : w2.frozen? ⟨w.heap.size, 1, none⟩ = false := (by unfold World.frozen?; rw [g0]; rfl); have g1 := Lib.hid g0; clear g0)
    refine bodyPost_ret (results_ct rfl _ _ w.heap.size 36 #[.int .i64 0, .int .i64 0] (0, 0) _ rfl ?_ Tryd.underlying36 rfl (by kernel_rfl) _ rfl) rfl ?_
    · refine blk_alloc ?_ _
      refine blk_put (cs := #[.int .i64 0, .int .i64 0]) ?_ 1 _ rfl
      refine blk_put (cs := #[.int .i64 0, .int .i64 0]) ?_ 0 _ rfl
      exact g1.out
    · exact ⟨rfl, Below.alloc (Below.setCell (p := ⟨w.heap.size, 1, none⟩) (Below.setCell (p := ⟨w.heap.size, 0, none⟩) hB (Nat.le_refl _) _) (Nat.le_refl _) _) (by simp [Deep.nblk_setCell]; omega) _⟩
  · obtain ⟨hx1, hx2⟩ := HF.out.2 h0
    dsimp only at hx1 hx2
    subst hx1
    have hd : decide (i ≥ 0) = true := decide_eq_true (by omega)
    have hd' : decide (0 ≤ i) = true := decide_eq_true (by omega)
    have hil : i.toNat < l.length := (List.getElem?_eq_some_iff.1 hx2).1
    have hi1 : 0 ≤ i := by omega
    have hi2 : i < l.length := by omega
    have hrd : rd_T36 l i = x := by
      unfold rd_T36
      rw [List.getD_eq_getElem?_getD, hx2]
      rfl
    have AT := Lib.hid (fun (w2 : World) (hB : Below w.heap.size w w2) => at_T36 (Kd.C_below HR.out hB) i hi1 hi2)
    rw [hrd] at AT
    clear hx2 hrd
    go_enter Tryd.func21, Tryd.ntmps21
    go_wp2_with (go_at_call 32; (with_reducible refine (HI.out _ r0.out r1.out r2.out).mono ?_); rintro ex w2 ⟨rfl, hb2⟩; have g0 : w2.heap[w.heap.size]? = some (.cells #[.int .i64 0, .int .i64 0] 36 (0, 0)) := (hb2.block _ (by simp)).trans (World.alloc_heap_new w _); have s2 : w.heap.size < w2.heap.size := Nat.lt_of_lt_of_le (by simp) hb2.size; have hB := hb0.trans (hb2.mono hb0.size); have q0 : w2.cell? ⟨w.heap.size, 0, none⟩ = some (.int .i64 0) := (by unfold World.cell?; rw [g0]; rfl); have u0 : w2.frozen? ⟨w.heap.size, 0, none⟩ = false := (by unfold World.frozen?; rw [g0]; rfl); have q1 : w2.cell? ⟨w.heap.size, 1, none⟩ = some (.int .i64 0) := (by unfold World.cell?; rw [g0]; rfl); have u1 : w2.frozen? ⟨w.heap.size, 1, none⟩ = false := (by unfold World.frozen?; rw [g0]; rfl); obtain ⟨ad, rfl, c0, c1⟩ := AT.out _ hB; have g1 := Lib.hid g0; clear g0)
    refine bodyPost_ret (results_ct rfl _ _ w.heap.size 36 #[.int .i64 x.f0, .int .i64 x.f1] (0, 0) _ rfl ?_ Tryd.underlying36 rfl (by kernel_rfl) _ rfl) rfl ?_
    · refine blk_put (cs := #[.int .i64 x.f0, .int .i64 0]) ?_ 1 _ rfl
      refine blk_put (cs := #[.int .i64 0, .int .i64 0]) ?_ 0 _ rfl
      exact g1.out
    · exact ⟨rfl, (Below.setCell (p := ⟨w.heap.size, 1, none⟩) (Below.setCell (p := ⟨w.heap.size, 0, none⟩) hB (Nat.le_refl _) _) (Nat.le_refl _) _)⟩
set_option maxHeartbeats 4000000 in
/-- a closure: what it asks of an element -/
theorem sig_is.calls (x : S36) (pe : Addr) (e : Int) (w : World) (hp : w.cell? pe = some (.int .i64 e)) (hlt : pe.block < w.heap.size) :
    Calls Tryd.prog 26 #[.agg #[.int .i64 x.f0, .int .i64 x.f1], .pointer (some pe)] w fun ex w' => ex = .returned (.bool (x.f0 == e)) ∧ Below w.heap.size w w' := by
  go_enter Tryd.func26, Tryd.ntmps26
  go_wp2
  go_ret
  exact ⟨rfl, (Below.refl _ w).alloc (Nat.le_refl _) _⟩
def sig_p (e : Int) (x : S36) : Bool := x.f0 == e
set_option maxHeartbeats 4000000 in
set_option maxRecDepth 100000 in
theorem sig_idx.calls (A : Option Addr) (c : Nat) (l : List S36) (pe : Addr) (e : Int) (w : World) (hr : Kd.C k36 w A l.length l) (hc : l.length ≤ c) (hl : l.length ≤ 1000000) (hp : w.cell? pe = some (.int .i64 e)) (hpb : pe.block < w.heap.size) :
    Calls Tryd.prog 32 #[.slice A l.length c, .func (.func 26) #[] #[.pointer (some pe)]] w fun ex w' => ex = .returned (.int .i64 (idxOf (sig_p e) l)) ∧ Below w.heap.size w w' := by
  have HE := Lib.hid (fun x w h h' => (show Calls Tryd.prog 26 _ _ fun ex w' => ex = .returned (.bool (sig_p e x)) ∧ _ from sig_is.calls x pe e w h h'))
  have HN := Lib.hid (fun h => idxOf_none (sig_p e) l h)
  have HA := Lib.hid (fun k hk hn h => idxOf_at (sig_p e) l k hk hn h)
  generalize idxOf (sig_p e) l = R at HN HA ⊢
  generalize sig_p e = P at HE HN HA
  have HR := Lib.hid hr
  clear hr
  go_enter Tryd.func32, Tryd.ntmps32
  go_wp2
  go_loopw [8] (fun t wr => ∃ k : Nat, t = .int .i64 k ∧ k ≤ l.length ∧ (∀ j (hj : j < l.length), j < k → P l[j] = false) ∧ Below w.heap.size w wr) (fun t _ => l.length - (intOf t).toNat)
  case atStart => exact ⟨0, rfl, Nat.zero_le _, fun j _ hj => by omega, Below.refl _ _⟩
  case round =>
    obtain ⟨k, rfl, hk, hn, hB⟩ := hrel
    by_cases hlt : k < l.length
    · obtain ⟨ad, rfl, c0, c1⟩ := at_T36 (Kd.C_below HR.out hB) (k : Int) (by omega) (by omega)
      have hp' : wr.cell? pe = some (.int .i64 e) := (hB.cell hpb).trans hp
      have hx : rd_T36 l (k : Int) = l[k] := by
        unfold rd_T36
        simp [hlt]
      rw [hx, Int.toNat_natCast] at c0 c1
      have hB' := Nat.lt_of_lt_of_le hpb hB.size
      have hn' := Lib.hid hn
      clear hn hx
      cases hb : P l[k]
      · go_wp2_with (go_at_call 26; (with_reducible refine (HE.out l[k] _ hp' hB').mono ?_); rintro ex w2 ⟨rfl, hb2⟩)
        refine ⟨⟨k + 1, by go_num, hlt, fun j hj hjk => ?_, hB.trans (hb2.mono hB.size)⟩, by simp [intOf]; omega⟩
        rcases Nat.lt_or_ge j k with h1 | h1
        · exact hn'.out j hj h1
        · obtain rfl : j = k := by omega
          exact hb
      · have hR := HA.out k hlt (fun j hj => hn'.out j (by omega) hj) hb
        subst hR
        go_wp2_with (go_at_call 26; (with_reducible refine (HE.out l[k] _ hp' hB').mono ?_); rintro ex w2 ⟨rfl, hb2⟩)
        go_ret
        exact ⟨rfl, hB.trans (hb2.mono hB.size)⟩
    · have e4 : k = l.length := by omega
      have hR := HN.out (fun x hx => by
        obtain ⟨j, hj, rfl⟩ := List.getElem_of_mem hx
        exact hn j hj (by omega))
      subst hR
      clear hn HA HN
      subst e4
      go_wp2
      go_ret
      exact ⟨rfl, hB⟩
set_option maxHeartbeats 4000000 in
set_option maxRecDepth 100000 in
/-- the first element that is as it is asked -/
theorem sig_found.calls (A : Option Addr) (c : Nat) (l : List S36) (pe : Addr) (e : Int) (w : World) (hr : Kd.C k36 w A l.length l) (hc : l.length ≤ c) (hl : l.length ≤ 1000000) (hp : w.cell? pe = some (.int .i64 e)) (hpb : pe.block < w.heap.size) (x : S36) (b : Bool)
    (hx : foundOf (sig_p e) z36 l = (x, b)) :
    Calls Tryd.prog 21 #[.slice A l.length c, .func (.func 26) #[] #[.pointer (some pe)]] w fun ex w' => ex = .returned (.tuple #[.agg #[.int .i64 x.f0, .int .i64 x.f1], .bool b]) ∧ Below w.heap.size w w' := by
  have HI := Lib.hid (fun w hr hp hpb => sig_idx.calls A c l pe e w hr hc hl hp hpb)
  have hF := idxOf_found (sig_p e) z36 l
  rw [hx] at hF
  have HF := Lib.hid hF
  clear hF
  generalize idxOf (sig_p e) l = i at HI HF
  have HR := Lib.hid hr
  clear hr hx
  have hb0 : Below w.heap.size w (w.alloc (.cells #[.int .i64 0, .int .i64 0] 36)) := (Below.refl _ w).alloc (Nat.le_refl _) _
  have r0 := Lib.hid (Kd.C_below HR.out hb0)
  have r1 := Lib.hid ((hb0.cell hpb).trans hp)
  have r2 := Lib.hid (Nat.lt_of_lt_of_le hpb hb0.size)
  by_cases h0 : i < 0
  · obtain ⟨hx1, hx2⟩ := HF.out.1 h0
    dsimp only at hx1 hx2
    subst hx1 hx2
    have hd : decide (i ≥ 0) = false := decide_eq_false (by omega)
    have hd' : decide (0 ≤ i) = false := decide_eq_false (by omega)
    go_enter Tryd.func21, Tryd.ntmps21
    go_wp2_with (go_at_call 32; (with_reducible refine (HI.out _ r0.out r1.out r2.out).mono ?_); rintro ex w2 ⟨rfl, hb2⟩; have g0 : w2.heap[w.heap.size]? = some (.cells #[.int .i64 0, .int .i64 0] 36 (0, 0)) := (hb2.block _ (by simp)).trans (World.alloc_heap_new w _); have s2 : w.heap.size < w2.heap.size := Nat.lt_of_lt_of_le (by simp) hb2.size; have hB := hb0.trans (hb2.mono hb0.size); have q0 : w2.cell? ⟨w.heap.size, 0, none⟩ = some (.int .i64 0) := (by unfold World.cell?; rw [g0]; rfl); have u0 : w2.frozen? ⟨w.heap.size, 0, none⟩ = false := (by unfold World.frozen?; rw [g0]; rfl); have q1 : w2.cell? ⟨w.heap.size, 1, none⟩ = some (.int .i64 0) := (by unfold World.cell?; rw [g0]; rfl); have u1 : w2.frozen? ⟨w.heap.size, 1, none⟩ = false := (by unfold World.frozen?; rw [g0]; rfl); have g1 := Lib.hid g0; clear g0)
    refine bodyPost_ret (results_ct rfl _ _ w.heap.size 36 #[.int .i64 0, .int .i64 0] (0, 0) _ rfl ?_ Tryd.underlying36 rfl (by kernel_rfl) _ rfl) rfl ?_
    · refine blk_alloc ?_ _
      refine blk_put (cs := #[.int .i64 0, .int .i64 0]) ?_ 1 _ rfl
      refine blk_put (cs := #[.int .i64 0, .int .i64 0]) ?_ 0 _ rfl
      exact g1.out
    · exact ⟨rfl, Below.alloc (Below.setCell (p := ⟨w.heap.size, 1, none⟩) (Below.setCell (p := ⟨w.heap.size, 0, none⟩) hB (Nat.le_refl _) _) (Nat.le_refl _) _) (by simp [Deep.nblk_setCell]; omega) _⟩
  · obtain ⟨hx1, hx2⟩ := HF.out.2 h0
    dsimp only at hx1 hx2
    subst hx1
    have hd : decide (i ≥ 0) = true := decide_eq_true (by omega)
    have hd' : decide (0 ≤ i) = true := decide_eq_true (by omega)
    have hil : i.toNat < l.length := (List.getElem?_eq_some_iff.1 hx2).1
    have hi1 : 0 ≤ i := by omega
    have hi2 : i < l.length := by omega
    have hrd : rd_T36 l i = x := by
      unfold rd_T36
      rw [List.getD_eq_getElem?_getD, hx2]
      rfl
    have AT := Lib.hid (fun (w2 : World) (hB : Below w.heap.size w w2) => at_T36 (Kd.C_below HR.out hB) i hi1 hi2)
    rw [hrd] at AT
    clear hx2 hrd
    go_enter Tryd.func21, Tryd.ntmps21
    go_wp2_with (go_at_call 32; (with_reducible refine (HI.out _ r0.out r1.out r2.out).mono ?_); rintro ex w2 ⟨rfl, hb2⟩; have g0 : w2.heap[w.heap.size]? = some (.cells #[.int .i64 0, .int .i64 0] 36 (0, 0)) := (hb2.block _ (by simp)).trans (World.alloc_heap_new w _); have s2 : w.heap.size < w2.heap.size := Nat.lt_of_lt_of_le (by simp) hb2.size; have hB := hb0.trans (hb2.mono hb0.size); have q0 : w2.cell? ⟨w.heap.size, 0, none⟩ = some (.int .i64 0) := (by unfold World.cell?; rw [g0]; rfl); have u0 : w2.frozen? ⟨w.heap.size, 0, none⟩ = false := (by unfold World.frozen?; rw [g0]; rfl); have q1 : w2.cell? ⟨w.heap.size, 1, none⟩ = some (.int .i64 0) := (by unfold World.cell?; rw [g0]; rfl); have u1 : w2.frozen? ⟨w.heap.size, 1, none⟩ = false := (by unfold World.frozen?; rw [g0]; rfl); obtain ⟨ad, rfl, c0, c1⟩ := AT.out _ hB; have g1 := Lib.hid g0; clear g0)
    refine bodyPost_ret (results_ct rfl _ _ w.heap.size 36 #[.int .i64 x.f0, .int .i64 x.f1] (0, 0) _ rfl ?_ Tryd.underlying36 rfl (by kernel_rfl) _ rfl) rfl ?_
    · refine blk_put (cs := #[.int .i64 x.f0, .int .i64 0]) ?_ 1 _ rfl
      refine blk_put (cs := #[.int .i64 0, .int .i64 0]) ?_ 0 _ rfl
      exact g1.out
    · exact ⟨rfl, (Below.setCell (p := ⟨w.heap.size, 1, none⟩) (Below.setCell (p := ⟨w.heap.size, 0, none⟩) hB (Nat.le_refl _) _) (Nat.le_refl _) _)⟩
set_option maxHeartbeats 4000000 in
/-- a closure: what it asks of an element -/
theorem back_is.calls (x : S36) (pe : Addr) (e : Int) (w : World) (hp : w.cell? pe = some (.int .i64 e)) (hlt : pe.block < w.heap.size) :
    Calls Tryd.prog 28 #[.agg #[.int .i64 x.f0, .int .i64 x.f1], .pointer (some pe)] w fun ex w' => ex = .returned (.bool (x.f1 == e)) ∧ Below w.heap.size w w' := by
  go_enter Tryd.func28, Tryd.ntmps28
  go_wp2
  go_ret
  exact ⟨rfl, (Below.refl _ w).alloc (Nat.le_refl _) _⟩
def back_p (e : Int) (x : S36) : Bool := x.f1 == e
set_option maxHeartbeats 4000000 in
set_option maxRecDepth 100000 in
theorem back_idx.calls (A : Option Addr) (c : Nat) (l : List S36) (pe : Addr) (e : Int) (w : World) (hr : Kd.C k36 w A l.length l) (hc : l.length ≤ c) (hl : l.length ≤ 1000000) (hp : w.cell? pe = some (.int .i64 e)) (hpb : pe.block < w.heap.size) :
    Calls Tryd.prog 32 #[.slice A l.length c, .func (.func 28) #[] #[.pointer (some pe)]] w fun ex w' => ex = .returned (.int .i64 (idxOf (back_p e) l)) ∧ Below w.heap.size w w' := by
  have HE := Lib.hid (fun x w h h' => (show Calls Tryd.prog 28 _ _ fun ex w' => ex = .returned (.bool (back_p e x)) ∧ _ from back_is.calls x pe e w h h'))
  have HN := Lib.hid (fun h => idxOf_none (back_p e) l h)
  have HA := Lib.hid (fun k hk hn h => idxOf_at (back_p e) l k hk hn h)
  generalize idxOf (back_p e) l = R at HN HA ⊢
  generalize back_p e = P at HE HN HA
  have HR := Lib.hid hr
  clear hr
  go_enter Tryd.func32, Tryd.ntmps32
  go_wp2
  go_loopw [8] (fun t wr => ∃ k : Nat, t = .int .i64 k ∧ k ≤ l.length ∧ (∀ j (hj : j < l.length), j < k → P l[j] = false) ∧ Below w.heap.size w wr) (fun t _ => l.length - (intOf t).toNat)
  case atStart => exact ⟨0, rfl, Nat.zero_le _, fun j _ hj => by omega, Below.refl _ _⟩
  case round =>
    obtain ⟨k, rfl, hk, hn, hB⟩ := hrel
    by_cases hlt : k < l.length
    · obtain ⟨ad, rfl, c0, c1⟩ := at_T36 (Kd.C_below HR.out hB) (k : Int) (by omega) (by omega)
      have hp' : wr.cell? pe = some (.int .i64 e) := (hB.cell hpb).trans hp
      have hx : rd_T36 l (k : Int) = l[k] := by
        unfold rd_T36
        simp [hlt]
      rw [hx, Int.toNat_natCast] at c0 c1
      have hB' := Nat.lt_of_lt_of_le hpb hB.size
      have hn' := Lib.hid hn
      clear hn hx
      cases hb : P l[k]
      · go_wp2_with (go_at_call 28; (with_reducible refine (HE.out l[k] _ hp' hB').mono ?_); rintro ex w2 ⟨rfl, hb2⟩)
        refine ⟨⟨k + 1, by go_num, hlt, fun j hj hjk => ?_, hB.trans (hb2.mono hB.size)⟩, by simp [intOf]; omega⟩
        rcases Nat.lt_or_ge j k with h1 | h1
        · exact hn'.out j hj h1
        · obtain rfl : j = k := by omega
          exact hb
      · have hR := HA.out k hlt (fun j hj => hn'.out j (by omega) hj) hb
        subst hR
        go_wp2_with (go_at_call 28; (with_reducible refine (HE.out l[k] _ hp' hB').mono ?_); rintro ex w2 ⟨rfl, hb2⟩)
        go_ret
        exact ⟨rfl, hB.trans (hb2.mono hB.size)⟩
    · have e4 : k = l.length := by omega
      have hR := HN.out (fun x hx => by
        obtain ⟨j, hj, rfl⟩ := List.getElem_of_mem hx
        exact hn j hj (by omega))
      subst hR
      clear hn HA HN
      subst e4
      go_wp2
      go_ret
      exact ⟨rfl, hB⟩
set_option maxHeartbeats 4000000 in
set_option maxRecDepth 100000 in
/-- the first element that is as it is asked -/
theorem back_found.calls (A : Option Addr) (c : Nat) (l : List S36) (pe : Addr) (e : Int) (w : World) (hr : Kd.C k36 w A l.length l) (hc : l.length ≤ c) (hl : l.length ≤ 1000000) (hp : w.cell? pe = some (.int .i64 e)) (hpb : pe.block < w.heap.size) (x : S36) (b : Bool)
    (hx : foundOf (back_p e) z36 l = (x, b)) :
    Calls Tryd.prog 21 #[.slice A l.length c, .func (.func 28) #[] #[.pointer (some pe)]] w fun ex w' => ex = .returned (.tuple #[.agg #[.int .i64 x.f0, .int .i64 x.f1], .bool b]) ∧ Below w.heap.size w w' := by
  have HI := Lib.hid (fun w hr hp hpb => back_idx.calls A c l pe e w hr hc hl hp hpb)
  have hF := idxOf_found (back_p e) z36 l
  rw [hx] at hF
  have HF := Lib.hid hF
  clear hF
  generalize idxOf (back_p e) l = i at HI HF
  have HR := Lib.hid hr
  clear hr hx
  have hb0 : Below w.heap.size w (w.alloc (.cells #[.int .i64 0, .int .i64 0] 36)) := (Below.refl _ w).alloc (Nat.le_refl _) _
  have r0 := Lib.hid (Kd.C_below HR.out hb0)
  have r1 := Lib.hid ((hb0.cell hpb).trans hp)
  have r2 := Lib.hid (Nat.lt_of_lt_of_le hpb hb0.size)
  by_cases h0 : i < 0
  · obtain ⟨hx1, hx2⟩ := HF.out.1 h0
    dsimp only at hx1 hx2
    subst hx1 hx2
    have hd : decide (i ≥ 0) = false := decide_eq_false (by omega)
    have hd' : decide (0 ≤ i) = false := decide_eq_false (by omega)
    go_enter Tryd.func21, Tryd.ntmps21
    go_wp2_with (go_at_call 32; (with_reducible refine (HI.out _ r0.out r1.out r2.out).mono ?_); rintro ex w2 ⟨rfl, hb2⟩; have g0 : w2.heap[w.heap.size]? = some (.cells #[.int .i64 0, .int .i64 0] 36 (0, 0)) := (hb2.block _ (by simp)).trans (World.alloc_heap_new w _); have s2 : w.heap.size < w2.heap.size := Nat.lt_of_lt_of_le (by simp) hb2.size; have hB := hb0.trans (hb2.mono hb0.size); have q0 : w2.cell? ⟨w.heap.size, 0, none⟩ = some (.int .i64 0) := (by unfold World.cell?; rw [g0]; rfl); have u0 : w2.frozen? ⟨w.heap.size, 0, none⟩ = false := (by unfold World.frozen?; rw [g0]; rfl); have q1 : w2.cell? ⟨w.heap.size, 1, none⟩ = some (.int .i64 0) := (by unfold World.cell?; rw [g0]; rfl); have u1 : w2.frozen? ⟨w.heap.size, 1, none⟩ = false := (by unfold World.frozen?; rw [g0]; rfl); have g1 := Lib.hid g0; clear g0)
    refine bodyPost_ret (results_ct rfl _ _ w.heap.size 36 #[.int .i64 0, .int .i64 0] (0, 0) _ rfl ?_ Tryd.underlying36 rfl (by kernel_rfl) _ rfl) rfl ?_
    · refine blk_alloc ?_ _
      refine blk_put (cs := #[.int .i64 0, .int .i64 0]) ?_ 1 _ rfl
      refine blk_put (cs := #[.int .i64 0, .int .i64 0]) ?_ 0 _ rfl
      exact g1.out
    · exact ⟨rfl, Below.alloc (Below.setCell (p := ⟨w.heap.size, 1, none⟩) (Below.setCell (p := ⟨w.heap.size, 0, none⟩) hB (Nat.le_refl _) _) (Nat.le_refl _) _) (by simp [Deep.nblk_setCell]; omega) _⟩
  · obtain ⟨hx1, hx2⟩ := HF.out.2 h0
    dsimp only at hx1 hx2
    subst hx1
    have hd : decide (i ≥ 0) = true := decide_eq_true (by omega)
    have hd' : decide (0 ≤ i) = true := decide_eq_true (by omega)
    have hil : i.toNat < l.length := (List.getElem?_eq_some_iff.1 hx2).1
    have hi1 : 0 ≤ i := by omega
    have hi2 : i < l.length := by omega
    have hrd : rd_T36 l i = x := by
      unfold rd_T36
      rw [List.getD_eq_getElem?_getD, hx2]
      rfl
    have AT := Lib.hid (fun (w2 : World) (hB : Below w.heap.size w w2) => at_T36 (Kd.C_below HR.out hB) i hi1 hi2)
    rw [hrd] at AT
    clear hx2 hrd
    go_enter Tryd.func21, Tryd.ntmps21
    go_wp2_with (go_at_call 32; (with_reducible refine (HI.out _ r0.out r1.out r2.out).mono ?_); rintro ex w2 ⟨rfl, hb2⟩; have g0 : w2.heap[w.heap.size]? = some (.cells #[.int .i64 0, .int .i64 0] 36 (0, 0)) := (hb2.block _ (by simp)).trans (World.alloc_heap_new w _); have s2 : w.heap.size < w2.heap.size := Nat.lt_of_lt_of_le (by simp) hb2.size; have hB := hb0.trans (hb2.mono hb0.size); have q0 : w2.cell? ⟨w.heap.size, 0, none⟩ = some (.int .i64 0) := (by unfold World.cell?; rw [g0]; rfl); have u0 : w2.frozen? ⟨w.heap.size, 0, none⟩ = false := (by unfold World.frozen?; rw [g0]; rfl); have q1 : w2.cell? ⟨w.heap.size, 1, none⟩ = some (.int .i64 0) := (by unfold World.cell?; rw [g0]; rfl); have u1 : w2.frozen? ⟨w.heap.size, 1, none⟩ = false := (by unfold World.frozen?; rw [g0]; rfl); obtain ⟨ad, rfl, c0, c1⟩ := AT.out _ hB; have g1 := Lib.hid g0; clear g0)
    refine bodyPost_ret (results_ct rfl _ _ w.heap.size 36 #[.int .i64 x.f0, .int .i64 x.f1] (0, 0) _ rfl ?_ Tryd.underlying36 rfl (by kernel_rfl) _ rfl) rfl ?_
    · refine blk_put (cs := #[.int .i64 x.f0, .int .i64 0]) ?_ 1 _ rfl
      refine blk_put (cs := #[.int .i64 0, .int .i64 0]) ?_ 0 _ rfl
      exact g1.out
    · exact ⟨rfl, (Below.setCell (p := ⟨w.heap.size, 1, none⟩) (Below.setCell (p := ⟨w.heap.size, 0, none⟩) hB (Nat.le_refl _) _) (Nat.le_refl _) _)⟩
end Go.Proofs.YtijghmpapmfndaaDoor.F
