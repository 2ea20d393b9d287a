import Derived.Below
import Derived.Deep.Draws
import Derived.Deep.AppendLies
import Derived.Maps.AppendAt
import Derived.OwnWalk
import Derived.Laws.BytesArg
import Derived.Laws.MakeOwn
import Derived.Laws.OwnMore
import Derived.Deep.OwnRows
import Derived.Tactics
import Derived.Lib.ConvBytes
import Derived.Laws.Slices
import Derived.WalkKit
import Derived.KernelRfl
import Derived.RowKit3
import Derived.Deep.LoopGhost
import Derived.Deep.QuietTactic
import Derived.BigQuiet
import Derived.WideLaws
import Derived.Deep.DeepCutAuto
import Derived.Deep.CutBlock
import Derived.Deep.RegionHeld3
import Derived.Laws.Rows
import Derived.Lib.AppendStr
import Derived.ArgAppend
import Derived.Laws.IdiomCopy
import Derived.RowKit
import Derived.OrdersHeld
import Derived.Laws.BitsLemmas
import Derived.Laws.StructEq
import Derived.OwnWalkIn
import Derived.ProofKit
import Derived.Lib.Hide
import Derived.Shelf.RegionOpen
import Derived.Shelf.Abstract
import Derived.Lib.SliceRun
import Derived.WalkSmall
import Derived.Laws.ResultCell
import Derived.Shelf.Spec.SlicesInsertGrow
import Derived.Test.YtlmmipdgedfboaaZF0
import Derived.Test.YtlmmipdgedfboaaYA0Sorted
import Derived.Test.YtlmmipdgedfboaaYA1Slc
import Derived.Test.YtlmmipdgedfboaaYA3HHost0
import Derived.Test.YtlmmipdgedfboaaYA7HHost3
import Derived.Test.YtlmmipdgedfboaaYA9
section
namespace Go.Proofs.Ytlmmipdgedfboaa.F
open Go.RowKit Go.Shelf Go.Proofs.YtlmmipdgedfboaaW.PrintWords Go.Proofs.YtlmmipdgedfboaaW.PrintLast Go.Proofs.YtlmmipdgedfboaaW.PrintMore
set_option linter.unusedVariables false
set_option linter.unusedSimpArgs false
theorem risesB_of {α : Type} (key : α → Int) : ∀ l : List α, (∀ (j : Nat) (hj : j + 1 < l.length), key (l[j]'(Nat.lt_of_succ_lt hj)) < key l[j + 1]) → risesB key l = true
  | [], _ => rfl
  | [_], _ => rfl
  | x :: y :: l, h => by
    unfold risesB
    rw [Bool.and_eq_true, decide_eq_true_eq]
    exact ⟨h 0 (by simp), risesB_of key (y :: l) (fun j hj => by have := h (j + 1) (by simp at hj ⊢; omega); simpa using this)⟩
theorem risesB_not {α : Type} (key : α → Int) (l : List α) (j : Nat) (hj : j + 1 < l.length) (h : ¬ key (l[j]'(Nat.lt_of_succ_lt hj)) < key l[j + 1]) : risesB key l = false := by
  refine Bool.eq_false_iff.2 (fun e => h ?_)
  exact rises_get key ((risesB_iff l).1 e) j (j + 1) hj (by omega)
set_option maxHeartbeats 8000000 in
set_option maxRecDepth 100000 in
theorem mp_rises.calls (g : Nat) (HG : ∀ (x : S53) (w : World), Calls Try.prog g #[.agg #[.int .u64 x.f0, .int .i64 x.f1]] w fun e w' => e = .returned (.int .u64 x.f0) ∧ Below w.heap.size w w') (eg : ∀ args w, (callFunc g args).run Try.prog w = .ok (.enter g args) w) (A : Option Addr) (c : Nat) (l : List S53) (w : World) (hr : Kd.C k53 w A l.length l) (hc : l.length ≤ c) (hl : l.length ≤ 1000000) :
    Calls Try.prog 48 #[.slice A l.length c, .func (.func g) #[] #[]] w fun e w' => e = .returned (.bool (risesB mpK l)) ∧ Below w.heap.size w w' := by
  have KY := Lib.hid (fun (a b : Int) w => HG ⟨a, b⟩ w)
  have HR := Lib.hid hr
  have mixed : Try.prog.follows Departure.mixedOrders = true := by kernel_rfl
  have hu := Try.underlying53
  generalize hBB : risesB mpK l = bb
  have EB := Lib.hid hBB
  clear hr HG hBB
  go_enter Try.func48, Try.ntmps48
  go_wp2
  go_loopw [5] (fun t wr => ∃ i : Nat, t = .int .i64 ((i + 1 : Nat) : Int) ∧ i ≤ l.length ∧ Hid (∀ (j : Nat) (hj : j + 1 < l.length), j < i → mpK (l[j]'(Nat.lt_of_succ_lt hj)) < mpK l[j + 1]) ∧ Hid (Below w.heap.size w wr)) (fun t _ => l.length + 1 - (intOf t).toNat)
  case atStart => exact ⟨0, rfl, Nat.zero_le _, Lib.hid (fun j _ hj => by omega), Lib.hid (Below.refl _ _)⟩
  case round =>
    obtain ⟨i, rfl, hi, hn, HB⟩ := hrel
    by_cases hlt : i + 1 < l.length
    · obtain ⟨ad, rfl, c0, c1⟩ := at_T53 (Kd.C_below HR.out HB.out) (i : Int) (by omega) (by omega)
      obtain ⟨ad2, had2, d0, d1⟩ := at_T53 (Kd.C_below HR.out HB.out) ((i + 1 : Nat) : Int) (by omega) (by omega)
      injection had2 with had2
      subst had2
      rw [mp_getR (by omega), Int.toNat_natCast] at c0 c1
      rw [mp_getR (by omega), Int.toNat_natCast] at d0 d1
      have hi1 : i < l.length := by omega
      have hwi : IntKind.i64.wrap (i : Int) = (i : Int) := (i64_w _).trans (by unfold wrap64; omega)
      have YES := Lib.hid (fun (h : mpK (l[i]'(by omega)) < mpK l[i + 1]) (j : Nat) (hj : j + 1 < l.length) (hji : j < i + 1) => by
        rcases Nat.lt_or_ge j i with h1 | h1
        · exact hn.out j hj h1
        · obtain rfl : j = i := by omega
          exact h)
      have NO := Lib.hid (fun (h : ¬ mpK (l[i]'(by omega)) < mpK l[i + 1]) => risesB_not mpK l i hlt h)
      generalize l[i]'(by omega) = x at c0 c1 YES NO
      generalize l[i + 1]'(by omega) = y at d0 d1 YES NO
      by_cases hxy : x.f0 < y.f0
      · have Y2 := Lib.hid (YES.out hxy)
        have hge : decide (x.f0 ≥ y.f0) = false := decide_eq_false (by omega)
        clear YES NO
        go_wp2_with (fail)
        go_region_with (go_at_fn g; (with_reducible refine (KY.out _ _ _).mono ?_); rintro ex w5 ⟨rfl, hb⟩; have HB9 := Lib.hid (show Below w.heap.size w _ from by first | exact HB.out.trans (hb.mono HB.out.size) | exact HB.out.drew.trans (hb.mono HB.out.size)); clear HB; have HB := HB9; clear HB9; replace d0 := (hb.cell (World.block_lt_of_cell? _ _ d0)).trans d0; replace d1 := (hb.cell (World.block_lt_of_cell? _ _ d1)).trans d1; clear hb)
        all_goals
          go_wp2
          exact ⟨⟨i + 1, by go_num, by omega, Y2, HB⟩, by simp [intOf]; omega⟩
      · have hf := NO.out hxy
        obtain rfl : bb = false := by rw [← EB.out]; exact hf
        have hge : decide (x.f0 ≥ y.f0) = true := decide_eq_true (by omega)
        clear YES NO hf
        go_wp2_with (fail)
        go_region_with (go_at_fn g; (with_reducible refine (KY.out _ _ _).mono ?_); rintro ex w5 ⟨rfl, hb⟩; have HB9 := Lib.hid (show Below w.heap.size w _ from by first | exact HB.out.trans (hb.mono HB.out.size) | exact HB.out.drew.trans (hb.mono HB.out.size)); clear HB; have HB := HB9; clear HB9; replace d0 := (hb.cell (World.block_lt_of_cell? _ _ d0)).trans d0; replace d1 := (hb.cell (World.block_lt_of_cell? _ _ d1)).trans d1; clear hb)
        all_goals
          go_wp2
          go_ret
          exact ⟨rfl, HB.out⟩
    · have hall := risesB_of mpK l (fun j hj => hn.out j hj (by omega))
      obtain rfl : bb = true := by rw [← EB.out]; exact hall
      clear hall hn
      go_wp2
      go_ret
      exact ⟨rfl, HB.out⟩
set_option maxHeartbeats 8000000 in
set_option maxRecDepth 100000 in
theorem cl_rises.calls (g : Nat) (HG : ∀ (x : S55) (w : World), Calls Try.prog g #[.agg #[.int .u64 x.f0, .int .u64 x.f1]] w fun e w' => e = .returned (.int .u64 x.f0) ∧ Below w.heap.size w w') (eg : ∀ args w, (callFunc g args).run Try.prog w = .ok (.enter g args) w) (A : Option Addr) (c : Nat) (l : List S55) (w : World) (hr : Kd.C k55 w A l.length l) (hc : l.length ≤ c) (hl : l.length ≤ 1000000) :
    Calls Try.prog 50 #[.slice A l.length c, .func (.func g) #[] #[]] w fun e w' => e = .returned (.bool (risesB clK l)) ∧ Below w.heap.size w w' := by
  have KY := Lib.hid (fun (a b : Int) w => HG ⟨a, b⟩ w)
  have HR := Lib.hid hr
  have mixed : Try.prog.follows Departure.mixedOrders = true := by kernel_rfl
  have hu := Try.underlying55
  generalize hBB : risesB clK l = bb
  have EB := Lib.hid hBB
  clear hr HG hBB
  go_enter Try.func50, Try.ntmps50
  go_wp2
  go_loopw [5] (fun t wr => ∃ i : Nat, t = .int .i64 ((i + 1 : Nat) : Int) ∧ i ≤ l.length ∧ Hid (∀ (j : Nat) (hj : j + 1 < l.length), j < i → clK (l[j]'(Nat.lt_of_succ_lt hj)) < clK l[j + 1]) ∧ Hid (Below w.heap.size w wr)) (fun t _ => l.length + 1 - (intOf t).toNat)
  case atStart => exact ⟨0, rfl, Nat.zero_le _, Lib.hid (fun j _ hj => by omega), Lib.hid (Below.refl _ _)⟩
  case round =>
    obtain ⟨i, rfl, hi, hn, HB⟩ := hrel
    by_cases hlt : i + 1 < l.length
    · obtain ⟨ad, rfl, c0, c1⟩ := at_T55 (Kd.C_below HR.out HB.out) (i : Int) (by omega) (by omega)
      obtain ⟨ad2, had2, d0, d1⟩ := at_T55 (Kd.C_below HR.out HB.out) ((i + 1 : Nat) : Int) (by omega) (by omega)
      injection had2 with had2
      subst had2
      rw [cl_getR (by omega), Int.toNat_natCast] at c0 c1
      rw [cl_getR (by omega), Int.toNat_natCast] at d0 d1
      have hi1 : i < l.length := by omega
      have hwi : IntKind.i64.wrap (i : Int) = (i : Int) := (i64_w _).trans (by unfold wrap64; omega)
      have YES := Lib.hid (fun (h : clK (l[i]'(by omega)) < clK l[i + 1]) (j : Nat) (hj : j + 1 < l.length) (hji : j < i + 1) => by
        rcases Nat.lt_or_ge j i with h1 | h1
        · exact hn.out j hj h1
        · obtain rfl : j = i := by omega
          exact h)
      have NO := Lib.hid (fun (h : ¬ clK (l[i]'(by omega)) < clK l[i + 1]) => risesB_not clK l i hlt h)
      generalize l[i]'(by omega) = x at c0 c1 YES NO
      generalize l[i + 1]'(by omega) = y at d0 d1 YES NO
      by_cases hxy : x.f0 < y.f0
      · have Y2 := Lib.hid (YES.out hxy)
        have hge : decide (x.f0 ≥ y.f0) = false := decide_eq_false (by omega)
        clear YES NO
        go_wp2_with (fail)
        go_region_with (go_at_fn g; (with_reducible refine (KY.out _ _ _).mono ?_); rintro ex w5 ⟨rfl, hb⟩; have HB9 := Lib.hid (show Below w.heap.size w _ from by first | exact HB.out.trans (hb.mono HB.out.size) | exact HB.out.drew.trans (hb.mono HB.out.size)); clear HB; have HB := HB9; clear HB9; replace d0 := (hb.cell (World.block_lt_of_cell? _ _ d0)).trans d0; replace d1 := (hb.cell (World.block_lt_of_cell? _ _ d1)).trans d1; clear hb)
        all_goals
          go_wp2
          exact ⟨⟨i + 1, by go_num, by omega, Y2, HB⟩, by simp [intOf]; omega⟩
      · have hf := NO.out hxy
        obtain rfl : bb = false := by rw [← EB.out]; exact hf
        have hge : decide (x.f0 ≥ y.f0) = true := decide_eq_true (by omega)
        clear YES NO hf
        go_wp2_with (fail)
        go_region_with (go_at_fn g; (with_reducible refine (KY.out _ _ _).mono ?_); rintro ex w5 ⟨rfl, hb⟩; have HB9 := Lib.hid (show Below w.heap.size w _ from by first | exact HB.out.trans (hb.mono HB.out.size) | exact HB.out.drew.trans (hb.mono HB.out.size)); clear HB; have HB := HB9; clear HB9; replace d0 := (hb.cell (World.block_lt_of_cell? _ _ d0)).trans d0; replace d1 := (hb.cell (World.block_lt_of_cell? _ _ d1)).trans d1; clear hb)
        all_goals
          go_wp2
          go_ret
          exact ⟨rfl, HB.out⟩
    · have hall := risesB_of clK l (fun j hj => hn.out j hj (by omega))
      obtain rfl : bb = true := by rw [← EB.out]; exact hall
      clear hall hn
      go_wp2
      go_ret
      exact ⟨rfl, HB.out⟩
end Go.Proofs.Ytlmmipdgedfboaa.F
end
