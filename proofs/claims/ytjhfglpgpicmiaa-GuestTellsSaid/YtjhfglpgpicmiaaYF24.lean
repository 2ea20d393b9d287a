import Derived.Below
import Derived.Deep.Draws
import Derived.Deep.AppendLies
import Derived.Maps.AppendAt
import Derived.OwnWalk
import Derived.Laws.BytesArg
import Derived.Laws.MakeOwn
import Derived.Laws.OwnMore
import Derived.Deep.OwnRows
import Derived.Tactics
import Derived.Lib.ConvBytes
import Derived.Laws.Slices
import Derived.WalkKit
import Derived.KernelRfl
import Derived.RowKit3
import Derived.Deep.LoopGhost
import Derived.Deep.QuietTactic
import Derived.BigQuiet
import Derived.WideLaws
import Derived.Deep.DeepCutAuto
import Derived.Deep.CutBlock
import Derived.Deep.RegionHeld3
import Derived.Laws.Rows
import Derived.Lib.AppendStr
import Derived.ArgAppend
import Derived.Laws.IdiomCopy
import Derived.RowKit
import Derived.OrdersHeld
import Derived.Laws.BitsLemmas
import Derived.Laws.StructEq
import Derived.OwnWalkIn
import Derived.ProofKit
import Derived.Lib.Hide
import Derived.Shelf.RegionOpen
import Derived.Shelf.Abstract
import Derived.Lib.SliceRun
import Derived.WalkSmall
import Derived.Laws.ResultCell
import Derived.Shelf.Spec.SlicesInsertGrow
import Derived.OpenShut
import Derived.Deep.Slices
import Derived.SizedLaws
import Derived.Test.YtjhfglpgpicmiaaZF0
import Derived.Test.YtjhfglpgpicmiaaYA0
import Derived.Test.YtjhfglpgpicmiaaYA1HHost1
import Derived.Test.YtjhfglpgpicmiaaYA3
import Derived.Test.YtjhfglpgpicmiaaYA4HHost3
import Derived.Test.YtjhfglpgpicmiaaYA5
import Derived.Test.YtjhfglpgpicmiaaYA9
import Derived.Test.YtjhfglpgpicmiaaYA10HGuest1
import Derived.Test.YtjhfglpgpicmiaaYA11
import Derived.Test.YtjhfglpgpicmiaaYA13
section
namespace Go.Proofs.Ytjhfglpgpicmiaa.F
open Go.RowKit Go.Shelf Go.Proofs.YtjhfglpgpicmiaaW.PrintWords Go.Proofs.YtjhfglpgpicmiaaW.PrintLast Go.Proofs.YtjhfglpgpicmiaaW.PrintMore
set_option linter.unusedVariables false
set_option linter.unusedSimpArgs false
set_option maxHeartbeats 4000000 in
theorem cl_any.calls (p : S60 → Bool) (pf : Nat) (cp : Array Value) (eg : ∀ args w, (callFunc pf args).run Try.prog w = .ok (.enter pf args) w) (A : Option Addr) (c : Nat) (l : List S60) (w : World) (hr : Kd.C k60 w A l.length l) (hc : l.length ≤ c) (hl : l.length ≤ 1000000)
    (HP : ∀ (x : S60) (W : World), Below w.heap.size w W → Calls Try.prog pf (#[.agg #[.int .u64 x.f0, .int .u64 x.f1]] ++ cp) W fun e w' => e = .returned (.bool (p x)) ∧ Below W.heap.size W w') :
    Calls Try.prog 58 #[.slice A l.length c, .func (.func pf) #[] cp] w fun ex w' => ex = .returned (.bool (l.any p)) ∧ Below w.heap.size w w' := by
  have IX := Lib.hid (cl_idx.calls p pf cp eg A c l w hr hc hl HP)
  rw [← sIdx_any]
  clear HP hr
  generalize sIdx p l = q at IX ⊢
  go_enter Try.func58, Try.ntmps58
  go_wp2_with (go_at_call 91; (with_reducible refine IX.out.mono ?_); rintro e w1 ⟨rfl, hb⟩)
  go_ret
  exact ⟨rfl, hb⟩
end Go.Proofs.Ytjhfglpgpicmiaa.F
end
section
namespace Go.Proofs.Ytjhfglpgpicmiaa.F
open Go.RowKit Go.Shelf Go.Proofs.YtjhfglpgpicmiaaW.PrintWords Go.Proofs.YtjhfglpgpicmiaaW.PrintLast Go.Proofs.YtjhfglpgpicmiaaW.PrintMore
set_option linter.unusedVariables false
set_option linter.unusedSimpArgs false
theorem risesB_of {α : Type} (key : α → Int) : ∀ l : List α, (∀ (j : Nat) (hj : j + 1 < l.length), key (l[j]'(Nat.lt_of_succ_lt hj)) < key l[j + 1]) → risesB key l = true
  | [], _ => rfl
  | [_], _ => rfl
  | x :: y :: l, h => by
    unfold risesB
    rw [Bool.and_eq_true, decide_eq_true_eq]
    exact ⟨h 0 (by simp), risesB_of key (y :: l) (fun j hj => by have := h (j + 1) (by simp at hj ⊢; omega); simpa using this)⟩
theorem risesB_not {α : Type} (key : α → Int) (l : List α) (j : Nat) (hj : j + 1 < l.length) (h : ¬ key (l[j]'(Nat.lt_of_succ_lt hj)) < key l[j + 1]) : risesB key l = false := by
  refine Bool.eq_false_iff.2 (fun e => h ?_)
  exact rises_get key ((risesB_iff l).1 e) j (j + 1) hj (by omega)
set_option maxHeartbeats 8000000 in
set_option maxRecDepth 100000 in
theorem mp_rises.calls (g : Nat) (HG : ∀ (x : S55) (w : World), Calls Try.prog g #[.agg #[.int .u64 x.f0, .int .i64 x.f1]] w fun e w' => e = .returned (.int .u64 x.f0) ∧ Below w.heap.size w w') (eg : ∀ args w, (callFunc g args).run Try.prog w = .ok (.enter g args) w) (A : Option Addr) (c : Nat) (l : List S55) (w : World) (hr : Kd.C k55 w A l.length l) (hc : l.length ≤ c) (hl : l.length ≤ 1000000) :
    Calls Try.prog 83 #[.slice A l.length c, .func (.func g) #[] #[]] w fun e w' => e = .returned (.bool (risesB mpK l)) ∧ Below w.heap.size w w' := by
  have KY := Lib.hid (fun (a b : Int) w => HG ⟨a, b⟩ w)
  have HR := Lib.hid hr
  have mixed : Try.prog.follows Departure.mixedOrders = true := by kernel_rfl
  have hu := Try.underlying55
  generalize hBB : risesB mpK l = bb
  have EB := Lib.hid hBB
  clear hr HG hBB
  go_enter Try.func83, Try.ntmps83
  go_wp2
  go_loopw [5] (fun t wr => ∃ i : Nat, t = .int .i64 ((i + 1 : Nat) : Int) ∧ i ≤ l.length ∧ Hid (∀ (j : Nat) (hj : j + 1 < l.length), j < i → mpK (l[j]'(Nat.lt_of_succ_lt hj)) < mpK l[j + 1]) ∧ Hid (Below w.heap.size w wr)) (fun t _ => l.length + 1 - (intOf t).toNat)
  case atStart => exact ⟨0, rfl, Nat.zero_le _, Lib.hid (fun j _ hj => by omega), Lib.hid (Below.refl _ _)⟩
  case round =>
    obtain ⟨i, rfl, hi, hn, HB⟩ := hrel
    by_cases hlt : i + 1 < l.length
    · obtain ⟨ad, rfl, c0, c1⟩ := at_T55 (Kd.C_below HR.out HB.out) (i : Int) (by omega) (by omega)
      obtain ⟨ad2, had2, d0, d1⟩ := at_T55 (Kd.C_below HR.out HB.out) ((i + 1 : Nat) : Int) (by omega) (by omega)
      injection had2 with had2
      subst had2
      rw [mp_getR (by omega), Int.toNat_natCast] at c0 c1
      rw [mp_getR (by omega), Int.toNat_natCast] at d0 d1
      have hi1 : i < l.length := by omega
      have hwi : IntKind.i64.wrap (i : Int) = (i : Int) := (i64_w _).trans (by unfold wrap64; omega)
      have YES := Lib.hid (fun (h : mpK (l[i]'(by omega)) < mpK l[i + 1]) (j : Nat) (hj : j + 1 < l.length) (hji : j < i + 1) => by
        rcases Nat.lt_or_ge j i with h1 | h1
        · exact hn.out j hj h1
        · obtain rfl : j = i := by omega
          exact h)
      have NO := Lib.hid (fun (h : ¬ mpK (l[i]'(by omega)) < mpK l[i + 1]) => risesB_not mpK l i hlt h)
      generalize l[i]'(by omega) = x at c0 c1 YES NO
      generalize l[i + 1]'(by omega) = y at d0 d1 YES NO
      by_cases hxy : x.f0 < y.f0
      · have Y2 := Lib.hid (YES.out hxy)
        have hge : decide (x.f0 ≥ y.f0) = false := decide_eq_false (by omega)
        clear YES NO
        go_wp2_with (fail)
        go_region_with (go_at_fn g; (with_reducible refine (KY.out _ _ _).mono ?_); rintro ex w5 ⟨rfl, hb⟩; have HB9 := Lib.hid (show Below w.heap.size w _ from by first | exact HB.out.trans (hb.mono HB.out.size) | exact HB.out.drew.trans (hb.mono HB.out.size)); clear HB; have HB := HB9; clear HB9; replace d0 := (hb.cell (World.block_lt_of_cell? _ _ d0)).trans d0; replace d1 := (hb.cell (World.block_lt_of_cell? _ _ d1)).trans d1; clear hb)
        all_goals
          go_wp2
          exact ⟨⟨i + 1, by go_num, by omega, Y2, HB⟩, by simp [intOf]; omega⟩
      have hf := NO.out hxy
      obtain rfl : bb = false := by rw [← EB.out]; exact hf
      have hge : decide (x.f0 ≥ y.f0) = true := decide_eq_true (by omega)
      clear YES NO hf
      go_wp2_with (fail)
      go_region_with (go_at_fn g; (with_reducible refine (KY.out _ _ _).mono ?_); rintro ex w5 ⟨rfl, hb⟩; have HB9 := Lib.hid (show Below w.heap.size w _ from by first | exact HB.out.trans (hb.mono HB.out.size) | exact HB.out.drew.trans (hb.mono HB.out.size)); clear HB; have HB := HB9; clear HB9; replace d0 := (hb.cell (World.block_lt_of_cell? _ _ d0)).trans d0; replace d1 := (hb.cell (World.block_lt_of_cell? _ _ d1)).trans d1; clear hb)
      all_goals
        go_wp2
        go_ret
        exact ⟨rfl, HB.out⟩
    have hall := risesB_of mpK l (fun j hj => hn.out j hj (by omega))
    obtain rfl : bb = true := by rw [← EB.out]; exact hall
    clear hall hn
    go_wp2
    go_ret
    exact ⟨rfl, HB.out⟩
set_option maxHeartbeats 8000000 in
set_option maxRecDepth 100000 in
theorem cl_rises.calls (g : Nat) (HG : ∀ (x : S60) (w : World), Calls Try.prog g #[.agg #[.int .u64 x.f0, .int .u64 x.f1]] w fun e w' => e = .returned (.int .u64 x.f0) ∧ Below w.heap.size w w') (eg : ∀ args w, (callFunc g args).run Try.prog w = .ok (.enter g args) w) (A : Option Addr) (c : Nat) (l : List S60) (w : World) (hr : Kd.C k60 w A l.length l) (hc : l.length ≤ c) (hl : l.length ≤ 1000000) :
    Calls Try.prog 85 #[.slice A l.length c, .func (.func g) #[] #[]] w fun e w' => e = .returned (.bool (risesB clK l)) ∧ Below w.heap.size w w' := by
  have KY := Lib.hid (fun (a b : Int) w => HG ⟨a, b⟩ w)
  have HR := Lib.hid hr
  have mixed : Try.prog.follows Departure.mixedOrders = true := by kernel_rfl
  have hu := Try.underlying60
  generalize hBB : risesB clK l = bb
  have EB := Lib.hid hBB
  clear hr HG hBB
  go_enter Try.func85, Try.ntmps85
  go_wp2
  go_loopw [5] (fun t wr => ∃ i : Nat, t = .int .i64 ((i + 1 : Nat) : Int) ∧ i ≤ l.length ∧ Hid (∀ (j : Nat) (hj : j + 1 < l.length), j < i → clK (l[j]'(Nat.lt_of_succ_lt hj)) < clK l[j + 1]) ∧ Hid (Below w.heap.size w wr)) (fun t _ => l.length + 1 - (intOf t).toNat)
  case atStart => exact ⟨0, rfl, Nat.zero_le _, Lib.hid (fun j _ hj => by omega), Lib.hid (Below.refl _ _)⟩
  case round =>
    obtain ⟨i, rfl, hi, hn, HB⟩ := hrel
    by_cases hlt : i + 1 < l.length
    · obtain ⟨ad, rfl, c0, c1⟩ := at_T60 (Kd.C_below HR.out HB.out) (i : Int) (by omega) (by omega)
      obtain ⟨ad2, had2, d0, d1⟩ := at_T60 (Kd.C_below HR.out HB.out) ((i + 1 : Nat) : Int) (by omega) (by omega)
      injection had2 with had2
      subst had2
      rw [cl_getR (by omega), Int.toNat_natCast] at c0 c1
      rw [cl_getR (by omega), Int.toNat_natCast] at d0 d1
      have hi1 : i < l.length := by omega
      have hwi : IntKind.i64.wrap (i : Int) = (i : Int) := (i64_w _).trans (by unfold wrap64; omega)
      have YES := Lib.hid (fun (h : clK (l[i]'(by omega)) < clK l[i + 1]) (j : Nat) (hj : j + 1 < l.length) (hji : j < i + 1) => by
        rcases Nat.lt_or_ge j i with h1 | h1
        · exact hn.out j hj h1
        · obtain rfl : j = i := by omega
          exact h)
      have NO := Lib.hid (fun (h : ¬ clK (l[i]'(by omega)) < clK l[i + 1]) => risesB_not clK l i hlt h)
      generalize l[i]'(by omega) = x at c0 c1 YES NO
      generalize l[i + 1]'(by omega) = y at d0 d1 YES NO
      by_cases hxy : x.f0 < y.f0
      · have Y2 := Lib.hid (YES.out hxy)
        have hge : decide (x.f0 ≥ y.f0) = false := decide_eq_false (by omega)
        clear YES NO
        go_wp2_with (fail)
        go_region_with (go_at_fn g; (with_reducible refine (KY.out _ _ _).mono ?_); rintro ex w5 ⟨rfl, hb⟩; have HB9 := Lib.hid (show Below w.heap.size w _ from by first | exact HB.out.trans (hb.mono HB.out.size) | exact HB.out.drew.trans (hb.mono HB.out.size)); clear HB; have HB := HB9; clear HB9; replace d0 := (hb.cell (World.block_lt_of_cell? _ _ d0)).trans d0; replace d1 := (hb.cell (World.block_lt_of_cell? _ _ d1)).trans d1; clear hb)
        all_goals
          go_wp2
          exact ⟨⟨i + 1, by go_num, by omega, Y2, HB⟩, by simp [intOf]; omega⟩
      have hf := NO.out hxy
      obtain rfl : bb = false := by rw [← EB.out]; exact hf
      have hge : decide (x.f0 ≥ y.f0) = true := decide_eq_true (by omega)
      clear YES NO hf
      go_wp2_with (fail)
      go_region_with (go_at_fn g; (with_reducible refine (KY.out _ _ _).mono ?_); rintro ex w5 ⟨rfl, hb⟩; have HB9 := Lib.hid (show Below w.heap.size w _ from by first | exact HB.out.trans (hb.mono HB.out.size) | exact HB.out.drew.trans (hb.mono HB.out.size)); clear HB; have HB := HB9; clear HB9; replace d0 := (hb.cell (World.block_lt_of_cell? _ _ d0)).trans d0; replace d1 := (hb.cell (World.block_lt_of_cell? _ _ d1)).trans d1; clear hb)
      all_goals
        go_wp2
        go_ret
        exact ⟨rfl, HB.out⟩
    have hall := risesB_of clK l (fun j hj => hn.out j hj (by omega))
    obtain rfl : bb = true := by rw [← EB.out]; exact hall
    clear hall hn
    go_wp2
    go_ret
    exact ⟨rfl, HB.out⟩
end Go.Proofs.Ytjhfglpgpicmiaa.F
end
section
namespace Go.Proofs.Ytjhfglpgpicmiaa.F
open Go.RowKit Go.Shelf Go.Proofs.YtjhfglpgpicmiaaW.PrintWords Go.Proofs.YtjhfglpgpicmiaaW.PrintLast Go.Proofs.YtjhfglpgpicmiaaW.PrintMore
set_option linter.unusedVariables false
set_option linter.unusedSimpArgs false
set_option maxHeartbeats 4000000 in
theorem pg_any.calls (p : S39 → Bool) (pf : Nat) (cp : Array Value) (eg : ∀ args w, (callFunc pf args).run Try.prog w = .ok (.enter pf args) w) (A : Option Addr) (c : Nat) (l : List S39) (w : World) (hr : Kd.C k39 w A l.length l) (hc : l.length ≤ c) (hl : l.length ≤ 1000000)
    (HP : ∀ (x : S39) (W : World), Below w.heap.size w W → Calls Try.prog pf (#[.agg #[.int .u32 x.f0, .int .i64 x.f1]] ++ cp) W fun e w' => e = .returned (.bool (p x)) ∧ Below W.heap.size W w') :
    Calls Try.prog 56 #[.slice A l.length c, .func (.func pf) #[] cp] w fun ex w' => ex = .returned (.bool (l.any p)) ∧ Below w.heap.size w w' := by
  have IX := Lib.hid (pg_idx.calls p pf cp eg A c l w hr hc hl HP)
  rw [← sIdx_any]
  clear HP hr
  generalize sIdx p l = q at IX ⊢
  go_enter Try.func56, Try.ntmps56
  go_wp2_with (go_at_call 89; (with_reducible refine IX.out.mono ?_); rintro e w1 ⟨rfl, hb⟩)
  go_ret
  exact ⟨rfl, hb⟩
end Go.Proofs.Ytjhfglpgpicmiaa.F
end
section
namespace Go.Proofs.Ytjhfglpgpicmiaa.F
open Go.RowKit Go.Shelf Go.Proofs.YtjhfglpgpicmiaaW.PrintWords Go.Proofs.YtjhfglpgpicmiaaW.PrintLast Go.Proofs.YtjhfglpgpicmiaaW.PrintMore
set_option linter.unusedVariables false
set_option linter.unusedSimpArgs false
set_option maxHeartbeats 4000000 in
theorem fit_1.calls (x : S55) (w : World) : Calls Try.prog 84 #[.agg #[.int .u64 x.f0, .int .i64 x.f1]] w fun e w' => e = .returned (.int .u64 x.f0) ∧ Below w.heap.size w w' := by
  have TB := Lib.hid ((Below.refl _ w).alloc (Nat.le_refl _) (.cells #[.int .u64 x.f0, .int .i64 x.f1] 55))
  go_enter Try.func84, Try.ntmps84
  go_wp2
  go_ret
  exact ⟨rfl, TB.out⟩
set_option maxHeartbeats 4000000 in
theorem fit_2.calls (x : S60) (w : World) : Calls Try.prog 86 #[.agg #[.int .u64 x.f0, .int .u64 x.f1]] w fun e w' => e = .returned (.int .u64 x.f0) ∧ Below w.heap.size w w' := by
  have TB := Lib.hid ((Below.refl _ w).alloc (Nat.le_refl _) (.cells #[.int .u64 x.f0, .int .u64 x.f1] 60))
  go_enter Try.func86, Try.ntmps86
  go_wp2
  go_ret
  exact ⟨rfl, TB.out⟩
set_option maxHeartbeats 8000000 in
set_option maxRecDepth 100000 in
theorem fit_3.calls (A0_0 : Option Addr) (c0_0 : Nat) (l0_0 : List S55) (A0_1 : Option Addr) (c0_1 : Nat) (l0_1 : List S60) (x : S60) (b : Nat) (w : World) (hr0_0 : Kd.C k55 w A0_0 l0_0.length l0_0) (hc0_0 : l0_0.length ≤ c0_0) (hr0_1 : Kd.C k60 w A0_1 l0_1.length l0_1) (hc0_1 : l0_1.length ≤ c0_1) (hb : w.heap[b]? = some (.cells #[.slice A0_0 l0_0.length c0_0, .slice A0_1 l0_1.length c0_1] 25 (0, 0))) (hl : l0_0.length ≤ 1000000) (hs : risesB mpK l0_0 = true) :
    Calls Try.prog 88 #[.agg #[.int .u64 x.f0, .int .u64 x.f1], .pointer (some ⟨b, 0, none⟩)] w fun e w' => e = .returned (.bool (fitCell l0_0 x)) ∧ Below w.heap.size w w' := by
  have TB := Lib.hid ((Below.refl _ w).alloc (Nat.le_refl _) (.cells #[.int .u64 x.f0, .int .u64 x.f1] 60))
  have NX := Lib.hid (blk_new w (.cells #[.int .u64 x.f0, .int .u64 x.f1] 60))
  have BB := Lib.hid ((TB.out.block _ (sblk_lt hb)).trans hb)
  have k0 := (sblk_cell BB.out 0).trans rfl
  have k1 := (sblk_cell BB.out 1).trans rfl
  have AT := Lib.hid (host_mapAt.calls A0_0 c0_0 l0_0 A0_1 c0_1 l0_1 (IntKind.u64.wrap (Int.tdiv x.f0 16384)) _ _ _ (Kd.C_below hr0_0 TB.out) hc0_0 (Kd.C_below hr0_1 TB.out) hc0_1 (map_at_some l0_1 _ hl hs))
  have hu := Try.underlying25
  have hu2 := Try.underlying60
  clear hb
  generalize hF : fitCell l0_0 x = r
  have EF := Lib.hid hF
  clear hF
  go_enter Try.func88, Try.ntmps88
  go_wp2_with (fail)
  refine AT.out.mono ?_
  rintro e w2 ⟨rfl, hb2⟩
  have N2 := Lib.hid ((hb2.block _ (sblk_lt NX.out)).trans NX.out)
  have B2 := Lib.hid (TB.out.trans (hb2.mono TB.out.size))
  clear hb2 k0 k1 AT BB
  have x0 := (sblk_cell N2.out 0).trans rfl
  have x1 := (sblk_cell N2.out 1).trans rfl
  have EF2 := EF.out
  unfold fitCell at EF2
  cases hh : has mpK (IntKind.u64.wrap (Int.tdiv x.f0 16384)) l0_0
  · rw [hh] at EF2
    simp at EF2
    subst EF2
    go_wp2
    go_ret
    exact ⟨rfl, B2.out⟩
  · rw [hh] at EF2
    cases h7 : (Go.bits .and .u64 x.f0 7 != 0)
    · rw [h7] at EF2
      simp only [Bool.not_true, Bool.false_or] at EF2
      subst EF2
      go_wp2
      go_ret
      exact ⟨rfl, B2.out⟩
    · rw [h7] at EF2
      simp at EF2
      subst EF2
      go_wp2
      go_ret
      exact ⟨rfl, B2.out⟩
-- HAND fn=ferry/host.Fit ; rounds=0 ; making=1 ; laid=0
def host_Fit.f (l0_0 : List S55) (l0_1 : List S60) : Option Bool := if l0_0.length ≤ 1000000 ∧ l0_1.length ≤ 1000000 then some (fitB l0_0 l0_1) else none
set_option maxHeartbeats 8000000 in
set_option maxRecDepth 100000 in
theorem host_Fit.calls (A0_0 : Option Addr) (c0_0 : Nat) (l0_0 : List S55) (A0_1 : Option Addr) (c0_1 : Nat) (l0_1 : List S60) (r : Bool) (w : World) (hr0_0 : Kd.C k55 w A0_0 l0_0.length l0_0) (hc0_0 : l0_0.length ≤ c0_0) (hr0_1 : Kd.C k60 w A0_1 l0_1.length l0_1) (hc0_1 : l0_1.length ≤ c0_1) (h : host_Fit.f l0_0 l0_1 = some r) :
    Calls Try.prog 49 #[.agg #[.slice A0_0 l0_0.length c0_0, .slice A0_1 l0_1.length c0_1]] w fun e w' => e = .returned (.bool r) ∧ Below w.heap.size w w' := by
  unfold host_Fit.f at h
  split at h
  rotate_left
  · cases h
  rename_i hl
  have EF := Lib.hid (Option.some.inj h)
  clear h
  have HM := Lib.hid hr0_0
  have HC := Lib.hid hr0_1
  have TB := Lib.hid ((Below.refl _ w).alloc (Nat.le_refl _) (.cells #[.slice A0_0 l0_0.length c0_0, .slice A0_1 l0_1.length c0_1] 25))
  have BB := Lib.hid (blk_new w (.cells #[.slice A0_0 l0_0.length c0_0, .slice A0_1 l0_1.length c0_1] 25))
  have k0 := (sblk_cell BB.out 0).trans rfl
  have hu := Try.underlying25
  have hu2 := Try.underlying55
  clear hr0_0 hr0_1
  go_enter Try.func49, Try.ntmps49
  go_wp2_with (fail)
  refine (mp_rises.calls 84 fit_1.calls (fun _ _ => by kernel_rfl) A0_0 c0_0 l0_0 _ (Kd.C_below HM.out TB.out) hc0_0 hl.1).mono ?_
  rintro e w1 ⟨rfl, hb1⟩
  have B1 := Lib.hid (TB.out.trans (hb1.mono TB.out.size))
  have K1 := Lib.hid ((hb1.block _ (sblk_lt BB.out)).trans BB.out)
  clear hb1 k0 TB BB
  have k1 := (sblk_cell K1.out 1).trans rfl
  go_wp2_with (fail)
  refine (cl_rises.calls 86 fit_2.calls (fun _ _ => by kernel_rfl) A0_1 c0_1 l0_1 _ (Kd.C_below HC.out B1.out) hc0_1 hl.2).mono ?_
  rintro e w2 ⟨rfl, hb2⟩
  have B2 := Lib.hid (B1.out.trans (hb2.mono B1.out.size))
  have K2 := Lib.hid ((hb2.block _ (sblk_lt K1.out)).trans K1.out)
  clear hb2 k1 B1 K1
  have k0 := (sblk_cell K2.out 0).trans rfl
  have k1 := (sblk_cell K2.out 1).trans rfl
  have EF2 := EF.out
  unfold fitB at EF2
  cases hr1 : risesB mpK l0_0
  · rw [hr1] at EF2
    simp at EF2
    subst EF2
    go_wp2
    go_ret
    exact ⟨rfl, B2.out⟩
  rw [hr1, Bool.true_and] at EF2
  cases hr2 : risesB clK l0_1
  · rw [hr2] at EF2
    simp at EF2
    subst EF2
    go_wp2
    go_ret
    exact ⟨rfl, B2.out⟩
  rw [hr2, Bool.true_and] at EF2
  by_cases h64 : l0_0.length ≤ 64
  rotate_left
  · rw [decide_eq_false h64] at EF2
    simp at EF2
    subst EF2
    go_wp2
    go_ret
    exact ⟨rfl, B2.out⟩
  rw [decide_eq_true h64, Bool.true_and] at EF2
  by_cases h131 : l0_1.length ≤ 131072
  rotate_left
  · rw [decide_eq_false h131] at EF2
    simp at EF2
    subst EF2
    go_wp2
    go_ret
    exact ⟨rfl, B2.out⟩
  rw [decide_eq_true h131, Bool.true_and] at EF2
  have EA := Lib.hid EF2
  clear EF2 EF
  go_wp2
  have HFR := Lib.hid hr1
  clear hr1 hr2
  go_loopw [34] (fun t wr => ∃ k : Nat, t = .int .i64 k ∧ k ≤ l0_0.length ∧ Hid (∀ j (hj : j < l0_0.length), j < k → fitMap l0_0[j] = false) ∧ Hid (Below w.heap.size w wr) ∧ Hid (wr.heap[w.heap.size]? = some (.cells #[.slice A0_0 l0_0.length c0_0, .slice A0_1 l0_1.length c0_1] 25 (0, 0)))) (fun t _ => l0_0.length - (intOf t).toNat)
  case atStart => exact ⟨0, rfl, Nat.zero_le _, Lib.hid (fun j _ hj => by omega), B2, K2⟩
  case round =>
    obtain ⟨k, rfl, hk, hn, HB, HK⟩ := hrel
    clear k0 k1
    by_cases hlt : k < l0_0.length
    · obtain ⟨ad, rfl, c0, c1⟩ := at_T55 (Kd.C_below HM.out HB.out) (k : Int) (by omega) (by omega)
      rw [mp_getR hlt, Int.toNat_natCast] at c0 c1
      have YES := Lib.hid (fun (h : fitMap l0_0[k] = false) (j : Nat) (hj : j < l0_0.length) (hji : j < k + 1) => by
        rcases Nat.lt_or_ge j k with h1 | h1
        · exact hn.out j hj h1
        · obtain rfl : j = k := by omega
          exact h)
      have NO := Lib.hid (fun (h : fitMap l0_0[k] = true) => List.any_eq_true.2 ⟨l0_0[k], List.getElem_mem hlt, h⟩)
      generalize l0_0[k] = x at c0 c1 YES NO
      have BP := Lib.hid (fun w => host_badProt.calls x.f1 _ w rfl)
      have X0 := Lib.hid (HB.out.trans (((Below.refl _ wr).alloc (Nat.le_refl _) (.cells #[.int .u64 x.f0, .int .i64 x.f1] 55)).mono HB.out.size))
      have N0 := Lib.hid (blk_new wr (.cells #[.int .u64 x.f0, .int .i64 x.f1] 55))
      have K0 := Lib.hid (blk_alloc HK.out (.cells #[.int .u64 x.f0, .int .i64 x.f1] 55))
      by_cases hge : x.f0 ≥ 1125899906842624
      · have hf := NO.out (by unfold fitMap; rw [decide_eq_true hge]; rfl)
        have hgb : decide (x.f0 ≥ 1125899906842624) = true := decide_eq_true hge
        obtain rfl : r = false := by rw [← EA.out, hf]; rfl
        clear YES NO hf
        go_wp2_with (fail)
        go_ret
        exact ⟨rfl, X0.out⟩
      have hgb : decide (x.f0 ≥ 1125899906842624) = false := decide_eq_false hge
      cases hbad : (Go.bits .andNot .i64 x.f1 7 != 0)
      · have hy := Lib.hid (YES.out (by unfold fitMap; rw [hgb, hbad]; rfl))
        rw [hbad] at BP
        clear YES NO
        go_wp2_with (go_at_call 87; (with_reducible refine (BP.out _).mono ?_); rintro ex w5 ⟨rfl, ⟨nd, rfl⟩⟩)
        have hb := pw_below_drewN (Below.refl (wr.alloc (.cells #[.int .u64 x.f0, .int .i64 x.f1] 55)).heap.size (wr.alloc (.cells #[.int .u64 x.f0, .int .i64 x.f1] 55))) nd
        exact ⟨⟨k + 1, by go_num, hlt, hy, Lib.hid (pw_below_drewN X0.out nd), Lib.hid ((hb.block _ (sblk_lt K0.out)).trans K0.out)⟩, by simp [intOf]; omega⟩
      · have hf := NO.out (by unfold fitMap; rw [hgb, hbad]; rfl)
        obtain rfl : r = false := by rw [← EA.out, hf]; rfl
        rw [hbad] at BP
        clear YES NO hf
        go_wp2_with (go_at_call 87; (with_reducible refine (BP.out _).mono ?_); rintro ex w5 ⟨rfl, ⟨nd, rfl⟩⟩)
        go_ret
        exact ⟨rfl, pw_below_drewN X0.out nd⟩
    have hany : l0_0.any fitMap = false := List.any_eq_false.2 (fun x hx => by
      obtain ⟨j, hj, rfl⟩ := List.getElem_of_mem hx
      rw [hn.out j hj (by omega)]
      simp)
    obtain rfl : r = !(l0_1.any (fitCell l0_0)) := by rw [← EA.out, hany]; rfl
    clear hn hany
    have k1 := (sblk_cell HK.out 1).trans rfl
    go_wp2_with (fail)
    refine (cl_any.calls (fitCell l0_0) 88 #[.pointer (some ⟨w.heap.size, 0, none⟩)] (fun _ _ => by kernel_rfl) A0_1 c0_1 l0_1 _ (Kd.C_below HC.out HB.out) hc0_1 hl.2 (fun x W hb => fit_3.calls A0_0 c0_0 l0_0 A0_1 c0_1 l0_1 x _ W (Kd.C_below HM.out (HB.out.trans (hb.mono HB.out.size))) hc0_0 (Kd.C_below HC.out (HB.out.trans (hb.mono HB.out.size))) hc0_1 ((hb.block _ (sblk_lt HK.out)).trans HK.out) hl.1 HFR.out)).mono ?_
    rintro e w9 ⟨rfl, hb9⟩
    have HB9 := Lib.hid (HB.out.trans (hb9.mono HB.out.size))
    clear hb9 k1
    go_wp2
    go_ret
    exact ⟨rfl, HB9.out⟩
end Go.Proofs.Ytjhfglpgpicmiaa.F
end
section
namespace Go.Proofs.Ytjhfglpgpicmiaa.F
open Go.RowKit Go.Proofs.YtjhfglpgpicmiaaW.PrintWords Go.Proofs.YtjhfglpgpicmiaaW.PrintLast Go.Proofs.YtjhfglpgpicmiaaW.PrintMore
attribute [local go_sem] max2_int min2_int max_two min_two max_three min_three max_four min_four
set_option linter.unusedVariables false
set_option linter.unusedSimpArgs false

attribute [local go_sem high] eqA55
def api_Map_92.l0 : Nat → List (S55) → List (S55) → Int → Int → Option (Bool)
  | 0, _, _, _, _ => none
  | k + 1, x0, x1, x12, x13 => if x13 < x12 then (if 0 ≤ x13 then (if x13 < (x0.length : Int) then (if x13 < (x1.length : Int) then (if (!(((rd_T55 x0 x13).f0) == ((rd_T55 x1 x13).f0)) || (!(((rd_T55 x0 x13).f1) == ((rd_T55 x1 x13).f1)))) = true then (some false) else (api_Map_92.l0 k x0 x1 x12 (wrap64 (x13 + 1)))) else (none)) else (none)) else (none)) else (some true)
def api_Map_92.f (k : Nat) (l0 : List (S55)) (l1 : List (S55)) : Option (Bool) := if (l0.length : Int) = (l1.length : Int) then (api_Map_92.l0 k l0 l1 (l0.length : Int) 0) else (some false)
set_option maxHeartbeats 8000000 in
set_option maxRecDepth 100000 in
theorem api_Map_92.calls (k : Nat) (A0 : Option Addr) (c0 : Nat) (l0 : List (S55)) (A1 : Option Addr) (c1 : Nat) (l1 : List (S55)) (r : Bool) (w : World) (hr0 : Kd.C k55 w A0 l0.length l0) (hc0 : l0.length ≤ c0) (hr1 : Kd.C k55 w A1 l1.length l1) (hc1 : l1.length ≤ c1) (h : api_Map_92.f k l0 l1 = some r) :
    Calls Try.prog 92 #[.slice A0 l0.length c0, .slice A1 l1.length c1] w fun e w' => e = .returned (.bool r) ∧ Drawn0 w w' := by
  have hu55 := Try.underlying55
  have HR0 := Aside0.mk hr0
  have HC0 := Aside0.mk hc0
  clear hr0 hc0
  have HR1 := Aside0.mk hr1
  have HC1 := Aside0.mk hc1
  clear hr1 hc1
  have H : (if (l0.length : Int) = (l1.length : Int) then (api_Map_92.l0 k l0 l1 (l0.length : Int) 0) else (some false)) = some r := h
  clear h
  by_cases c3 : (l0.length : Int) = (l1.length : Int)
  · rw [if_pos c3] at H
    have c3b0 : ((l0.length : Int) == (l1.length : Int)) = true := beq_iff_eq.mpr c3
    have c3b1 : ((l0.length : Int) != (l1.length : Int)) = false := bne_eq_false_iff_eq.mpr c3
    have c3b2 : (l0.length == l1.length) = true := by first | simpa using c3 | (simp at c3 ⊢; omega)
    clear c3
    have H' := Aside0.mk H
    clear H
    go_enter Try.func92, Try.ntmps92
    go_wp2
    repeat (go_quiet (fail); try go_wp2)
    go_loopg [13] k (fun kq v13 w' => ∃ (x13_1 : Int), v13 = .int .i64 x13_1 ∧ Aside0 (api_Map_92.l0 kq l0 l1 (l0.length : Int) x13_1 = some r) ∧ Aside0 (kq ≤ k) ∧ Drawn0 w w')
    case atStart => exact ⟨(0), (by first | rfl | (simp; done) | (simp [*]; done)), H', ⟨Nat.le_refl _⟩, by repeat (first | exact Drawn0.refl _ | apply Drawn0.step)⟩
    case round =>
      clear H'
      try clear c1
      try clear p2
      try clear c3
      try clear c3b0
      try clear c3b1
      try clear c3b2
      obtain ⟨x13_1, rfl, HA, HK1, ⟨m1, rfl⟩⟩ := hrel
      cases gk with
      | zero => exact absurd HA.out (by simp [api_Map_92.l0])
      | succ k1 =>
        have H := HA.out
        clear HA
        simp only [api_Map_92.l0] at H
        by_cases c4 : x13_1 < (l0.length : Int)
        · rw [if_pos c4] at H
          have c4b0 : decide (x13_1 < (l0.length : Int)) = true := decide_eq_true c4
          clear c4
          by_cases c5 : 0 ≤ x13_1
          · rw [if_pos c5] at H
            have c5b0 : decide (0 ≤ x13_1) = true := decide_eq_true c5
            clear c5
            by_cases c6 : x13_1 < (l0.length : Int)
            · rw [if_pos c6] at H
              have c6b0 : decide (x13_1 < (l0.length : Int)) = true := decide_eq_true c6
              clear c6
              by_cases c7 : x13_1 < (l1.length : Int)
              · rw [if_pos c7] at H
                have c7b0 : decide (x13_1 < (l1.length : Int)) = true := decide_eq_true c7
                clear c7
                by_cases c8 : (!(((rd_T55 l0 x13_1).f0) == ((rd_T55 l1 x13_1).f0)) || (!(((rd_T55 l0 x13_1).f1) == ((rd_T55 l1 x13_1).f1)))) = true
                · rw [if_pos c8] at H
                  have c8b0 : (!(((rd_T55 l0 x13_1).f0) == ((rd_T55 l1 x13_1).f0)) || (!(((rd_T55 l0 x13_1).f1) == ((rd_T55 l1 x13_1).f1)))) = true := c8
                  clear c8
                  obtain rfl := Option.some.inj H
                  have p360 : 0 ≤ (x13_1 : Int) := of_decide_eq_true (by first | (with_reducible assumption) | assumption)
                  have q360 : x13_1 < (l0.length : Int) := of_decide_eq_true (by first | (with_reducible assumption) | assumption)
                  obtain ⟨ad360, e360, hx360_0, hx360_1⟩ := at_T55 HR0.out x13_1 p360 q360
                  cases e360
                  replace p360 := eq_true p360
                  replace q360 := eq_true q360
                  have p361 : 0 ≤ (x13_1 : Int) := of_decide_eq_true (by first | (with_reducible assumption) | assumption)
                  have q361 : x13_1 < (l1.length : Int) := of_decide_eq_true (by first | (with_reducible assumption) | assumption)
                  obtain ⟨ad361, e361, hx361_0, hx361_1⟩ := at_T55 HR1.out x13_1 p361 q361
                  cases e361
                  replace p361 := eq_true p361
                  replace q361 := eq_true q361
                  go_wp2
                  repeat (go_quiet (fail); try go_wp2)
                  go_ret
                  exact ⟨by first | rfl | (simp; done) | (simp [*]; done), by repeat (first | exact Drawn0.refl _ | apply Drawn0.step)⟩
                rw [if_neg c8] at H
                have c8b0 : (!(((rd_T55 l0 x13_1).f0) == ((rd_T55 l1 x13_1).f0)) || (!(((rd_T55 l0 x13_1).f1) == ((rd_T55 l1 x13_1).f1)))) = false := by simpa using c8
                clear c8
                have H' := Aside0.mk H
                clear H
                have p360 : 0 ≤ (x13_1 : Int) := of_decide_eq_true (by first | (with_reducible assumption) | assumption)
                have q360 : x13_1 < (l0.length : Int) := of_decide_eq_true (by first | (with_reducible assumption) | assumption)
                obtain ⟨ad360, e360, hx360_0, hx360_1⟩ := at_T55 HR0.out x13_1 p360 q360
                cases e360
                replace p360 := eq_true p360
                replace q360 := eq_true q360
                have p361 : 0 ≤ (x13_1 : Int) := of_decide_eq_true (by first | (with_reducible assumption) | assumption)
                have q361 : x13_1 < (l1.length : Int) := of_decide_eq_true (by first | (with_reducible assumption) | assumption)
                obtain ⟨ad361, e361, hx361_0, hx361_1⟩ := at_T55 HR1.out x13_1 p361 q361
                cases e361
                replace p361 := eq_true p361
                replace q361 := eq_true q361
                go_wp2
                repeat (go_quiet (fail); try go_wp2)
                go_roundg k1
                case measure => have := HK1.out; omega
                case rel => exact ⟨(wrap64 (x13_1 + 1)), (by first | rfl | (simp; done) | (simp [*]; done)), H', ⟨by have := HK1.out; omega⟩, by repeat (first | exact Drawn0.refl _ | apply Drawn0.step)⟩
              rw [if_neg c7] at H
              exact absurd H (by simp)
            rw [if_neg c6] at H
            exact absurd H (by simp)
          rw [if_neg c5] at H
          exact absurd H (by simp)
        rw [if_neg c4] at H
        have c4b0 : decide (x13_1 < (l0.length : Int)) = false := decide_eq_false c4
        clear c4
        obtain rfl := Option.some.inj H
        go_wp2
        repeat (go_quiet (fail); try go_wp2)
        go_ret
        exact ⟨by first | rfl | (simp; done) | (simp [*]; done), by repeat (first | exact Drawn0.refl _ | apply Drawn0.step)⟩
  rw [if_neg c3] at H
  have c3b0 : ((l0.length : Int) == (l1.length : Int)) = false := beq_eq_false_iff_ne.mpr c3
  have c3b1 : ((l0.length : Int) != (l1.length : Int)) = true := bne_iff_ne.mpr c3
  have c3b2 : (l0.length == l1.length) = false := by first | simpa using c3 | (simp at c3 ⊢; omega)
  obtain rfl := Option.some.inj H
  go_enter Try.func92, Try.ntmps92
  go_wp2
  repeat (go_quiet (fail); try go_wp2)
  go_ret
  exact ⟨by first | rfl | (simp; done) | (simp [*]; done), by repeat (first | exact Drawn0.refl _ | apply Drawn0.step)⟩

end Go.Proofs.Ytjhfglpgpicmiaa.F
end
section
namespace Go.Proofs.Ytjhfglpgpicmiaa.F
open Go.RowKit Go.Proofs.YtjhfglpgpicmiaaW.PrintWords Go.Proofs.YtjhfglpgpicmiaaW.PrintLast Go.Proofs.YtjhfglpgpicmiaaW.PrintMore
attribute [local go_sem] max2_int min2_int max_two min_two max_three min_three max_four min_four
set_option linter.unusedVariables false
set_option linter.unusedSimpArgs false

attribute [local go_sem high] eqA60
def api_Cell_93.l0 : Nat → List (S60) → List (S60) → Int → Int → Option (Bool)
  | 0, _, _, _, _ => none
  | k + 1, x0, x1, x12, x13 => if x13 < x12 then (if 0 ≤ x13 then (if x13 < (x0.length : Int) then (if x13 < (x1.length : Int) then (if (!(((rd_T60 x0 x13).f0) == ((rd_T60 x1 x13).f0)) || (!(((rd_T60 x0 x13).f1) == ((rd_T60 x1 x13).f1)))) = true then (some false) else (api_Cell_93.l0 k x0 x1 x12 (wrap64 (x13 + 1)))) else (none)) else (none)) else (none)) else (some true)
def api_Cell_93.f (k : Nat) (l0 : List (S60)) (l1 : List (S60)) : Option (Bool) := if (l0.length : Int) = (l1.length : Int) then (api_Cell_93.l0 k l0 l1 (l0.length : Int) 0) else (some false)
set_option maxHeartbeats 8000000 in
set_option maxRecDepth 100000 in
theorem api_Cell_93.calls (k : Nat) (A0 : Option Addr) (c0 : Nat) (l0 : List (S60)) (A1 : Option Addr) (c1 : Nat) (l1 : List (S60)) (r : Bool) (w : World) (hr0 : Kd.C k60 w A0 l0.length l0) (hc0 : l0.length ≤ c0) (hr1 : Kd.C k60 w A1 l1.length l1) (hc1 : l1.length ≤ c1) (h : api_Cell_93.f k l0 l1 = some r) :
    Calls Try.prog 93 #[.slice A0 l0.length c0, .slice A1 l1.length c1] w fun e w' => e = .returned (.bool r) ∧ Drawn0 w w' := by
  have hu60 := Try.underlying60
  have HR0 := Aside0.mk hr0
  have HC0 := Aside0.mk hc0
  clear hr0 hc0
  have HR1 := Aside0.mk hr1
  have HC1 := Aside0.mk hc1
  clear hr1 hc1
  have H : (if (l0.length : Int) = (l1.length : Int) then (api_Cell_93.l0 k l0 l1 (l0.length : Int) 0) else (some false)) = some r := h
  clear h
  by_cases c3 : (l0.length : Int) = (l1.length : Int)
  · rw [if_pos c3] at H
    have c3b0 : ((l0.length : Int) == (l1.length : Int)) = true := beq_iff_eq.mpr c3
    have c3b1 : ((l0.length : Int) != (l1.length : Int)) = false := bne_eq_false_iff_eq.mpr c3
    have c3b2 : (l0.length == l1.length) = true := by first | simpa using c3 | (simp at c3 ⊢; omega)
    clear c3
    have H' := Aside0.mk H
    clear H
    go_enter Try.func93, Try.ntmps93
    go_wp2
    repeat (go_quiet (fail); try go_wp2)
    go_loopg [13] k (fun kq v13 w' => ∃ (x13_1 : Int), v13 = .int .i64 x13_1 ∧ Aside0 (api_Cell_93.l0 kq l0 l1 (l0.length : Int) x13_1 = some r) ∧ Aside0 (kq ≤ k) ∧ Drawn0 w w')
    case atStart => exact ⟨(0), (by first | rfl | (simp; done) | (simp [*]; done)), H', ⟨Nat.le_refl _⟩, by repeat (first | exact Drawn0.refl _ | apply Drawn0.step)⟩
    case round =>
      clear H'
      try clear c1
      try clear p2
      try clear c3
      try clear c3b0
      try clear c3b1
      try clear c3b2
      obtain ⟨x13_1, rfl, HA, HK1, ⟨m1, rfl⟩⟩ := hrel
      cases gk with
      | zero => exact absurd HA.out (by simp [api_Cell_93.l0])
      | succ k1 =>
        have H := HA.out
        clear HA
        simp only [api_Cell_93.l0] at H
        by_cases c4 : x13_1 < (l0.length : Int)
        · rw [if_pos c4] at H
          have c4b0 : decide (x13_1 < (l0.length : Int)) = true := decide_eq_true c4
          clear c4
          by_cases c5 : 0 ≤ x13_1
          · rw [if_pos c5] at H
            have c5b0 : decide (0 ≤ x13_1) = true := decide_eq_true c5
            clear c5
            by_cases c6 : x13_1 < (l0.length : Int)
            · rw [if_pos c6] at H
              have c6b0 : decide (x13_1 < (l0.length : Int)) = true := decide_eq_true c6
              clear c6
              by_cases c7 : x13_1 < (l1.length : Int)
              · rw [if_pos c7] at H
                have c7b0 : decide (x13_1 < (l1.length : Int)) = true := decide_eq_true c7
                clear c7
                by_cases c8 : (!(((rd_T60 l0 x13_1).f0) == ((rd_T60 l1 x13_1).f0)) || (!(((rd_T60 l0 x13_1).f1) == ((rd_T60 l1 x13_1).f1)))) = true
                · rw [if_pos c8] at H
                  have c8b0 : (!(((rd_T60 l0 x13_1).f0) == ((rd_T60 l1 x13_1).f0)) || (!(((rd_T60 l0 x13_1).f1) == ((rd_T60 l1 x13_1).f1)))) = true := c8
                  clear c8
                  obtain rfl := Option.some.inj H
                  have p362 : 0 ≤ (x13_1 : Int) := of_decide_eq_true (by first | (with_reducible assumption) | assumption)
                  have q362 : x13_1 < (l0.length : Int) := of_decide_eq_true (by first | (with_reducible assumption) | assumption)
                  obtain ⟨ad362, e362, hx362_0, hx362_1⟩ := at_T60 HR0.out x13_1 p362 q362
                  cases e362
                  replace p362 := eq_true p362
                  replace q362 := eq_true q362
                  have p363 : 0 ≤ (x13_1 : Int) := of_decide_eq_true (by first | (with_reducible assumption) | assumption)
                  have q363 : x13_1 < (l1.length : Int) := of_decide_eq_true (by first | (with_reducible assumption) | assumption)
                  obtain ⟨ad363, e363, hx363_0, hx363_1⟩ := at_T60 HR1.out x13_1 p363 q363
                  cases e363
                  replace p363 := eq_true p363
                  replace q363 := eq_true q363
                  go_wp2
                  repeat (go_quiet (fail); try go_wp2)
                  go_ret
                  exact ⟨by first | rfl | (simp; done) | (simp [*]; done), by repeat (first | exact Drawn0.refl _ | apply Drawn0.step)⟩
                rw [if_neg c8] at H
                have c8b0 : (!(((rd_T60 l0 x13_1).f0) == ((rd_T60 l1 x13_1).f0)) || (!(((rd_T60 l0 x13_1).f1) == ((rd_T60 l1 x13_1).f1)))) = false := by simpa using c8
                clear c8
                have H' := Aside0.mk H
                clear H
                have p362 : 0 ≤ (x13_1 : Int) := of_decide_eq_true (by first | (with_reducible assumption) | assumption)
                have q362 : x13_1 < (l0.length : Int) := of_decide_eq_true (by first | (with_reducible assumption) | assumption)
                obtain ⟨ad362, e362, hx362_0, hx362_1⟩ := at_T60 HR0.out x13_1 p362 q362
                cases e362
                replace p362 := eq_true p362
                replace q362 := eq_true q362
                have p363 : 0 ≤ (x13_1 : Int) := of_decide_eq_true (by first | (with_reducible assumption) | assumption)
                have q363 : x13_1 < (l1.length : Int) := of_decide_eq_true (by first | (with_reducible assumption) | assumption)
                obtain ⟨ad363, e363, hx363_0, hx363_1⟩ := at_T60 HR1.out x13_1 p363 q363
                cases e363
                replace p363 := eq_true p363
                replace q363 := eq_true q363
                go_wp2
                repeat (go_quiet (fail); try go_wp2)
                go_roundg k1
                case measure => have := HK1.out; omega
                case rel => exact ⟨(wrap64 (x13_1 + 1)), (by first | rfl | (simp; done) | (simp [*]; done)), H', ⟨by have := HK1.out; omega⟩, by repeat (first | exact Drawn0.refl _ | apply Drawn0.step)⟩
              rw [if_neg c7] at H
              exact absurd H (by simp)
            rw [if_neg c6] at H
            exact absurd H (by simp)
          rw [if_neg c5] at H
          exact absurd H (by simp)
        rw [if_neg c4] at H
        have c4b0 : decide (x13_1 < (l0.length : Int)) = false := decide_eq_false c4
        clear c4
        obtain rfl := Option.some.inj H
        go_wp2
        repeat (go_quiet (fail); try go_wp2)
        go_ret
        exact ⟨by first | rfl | (simp; done) | (simp [*]; done), by repeat (first | exact Drawn0.refl _ | apply Drawn0.step)⟩
  rw [if_neg c3] at H
  have c3b0 : ((l0.length : Int) == (l1.length : Int)) = false := beq_eq_false_iff_ne.mpr c3
  have c3b1 : ((l0.length : Int) != (l1.length : Int)) = true := bne_iff_ne.mpr c3
  have c3b2 : (l0.length == l1.length) = false := by first | simpa using c3 | (simp at c3 ⊢; omega)
  obtain rfl := Option.some.inj H
  go_enter Try.func93, Try.ntmps93
  go_wp2
  repeat (go_quiet (fail); try go_wp2)
  go_ret
  exact ⟨by first | rfl | (simp; done) | (simp [*]; done), by repeat (first | exact Drawn0.refl _ | apply Drawn0.step)⟩

end Go.Proofs.Ytjhfglpgpicmiaa.F
end
section
namespace Go.Proofs.Ytjhfglpgpicmiaa.F
open Go.RowKit Go.Proofs.YtjhfglpgpicmiaaW.PrintWords Go.Proofs.YtjhfglpgpicmiaaW.PrintLast Go.Proofs.YtjhfglpgpicmiaaW.PrintMore
attribute [local go_sem] max2_int min2_int max_two min_two max_three min_three max_four min_four
set_option linter.unusedVariables false
set_option linter.unusedSimpArgs false

def host_Same.f (k : Nat) (l0_0 : List (S55)) (l0_1 : List (S60)) (l1_0 : List (S55)) (l1_1 : List (S60)) : Option (Bool) := (api_Map_92.f k l0_0 l1_0).bind fun t366 => (if t366 = true then ((api_Cell_93.f k l0_1 l1_1).bind fun t367 => (some t367)) else (some false))
set_option maxHeartbeats 8000000 in
set_option maxRecDepth 100000 in
theorem host_Same.calls (k : Nat) (A0_0 : Option Addr) (c0_0 : Nat) (l0_0 : List (S55)) (A0_1 : Option Addr) (c0_1 : Nat) (l0_1 : List (S60)) (A1_0 : Option Addr) (c1_0 : Nat) (l1_0 : List (S55)) (A1_1 : Option Addr) (c1_1 : Nat) (l1_1 : List (S60)) (r : Bool) (w : World) (hr0_0 : Kd.C k55 w A0_0 l0_0.length l0_0) (hc0_0 : l0_0.length ≤ c0_0) (hr0_1 : Kd.C k60 w A0_1 l0_1.length l0_1) (hc0_1 : l0_1.length ≤ c0_1) (hr1_0 : Kd.C k55 w A1_0 l1_0.length l1_0) (hc1_0 : l1_0.length ≤ c1_0) (hr1_1 : Kd.C k60 w A1_1 l1_1.length l1_1) (hc1_1 : l1_1.length ≤ c1_1) (h : host_Same.f k l0_0 l0_1 l1_0 l1_1 = some r) :
    Calls Try.prog 59 #[.agg #[.slice A0_0 l0_0.length c0_0, .slice A0_1 l0_1.length c0_1], .agg #[.slice A1_0 l1_0.length c1_0, .slice A1_1 l1_1.length c1_1]] w fun e w' => e = .returned (.bool r) ∧ Below w.heap.size w w' := by
  have hu25 := Try.underlying25
  have HR0_0 := Aside0.mk hr0_0
  have HC0_0 := Aside0.mk hc0_0
  clear hr0_0 hc0_0
  have HR0_1 := Aside0.mk hr0_1
  have HC0_1 := Aside0.mk hc0_1
  clear hr0_1 hc0_1
  have HR1_0 := Aside0.mk hr1_0
  have HC1_0 := Aside0.mk hc1_0
  clear hr1_0 hc1_0
  have HR1_1 := Aside0.mk hr1_1
  have HC1_1 := Aside0.mk hc1_1
  clear hr1_1 hc1_1
  have HB := Aside0.mk (Below.refl w.heap.size w)
  have H : ((api_Map_92.f k l0_0 l1_0).bind fun t366 => (if t366 = true then ((api_Cell_93.f k l0_1 l1_1).bind fun t367 => (some t367)) else (some false))) = some r := h
  clear h
  replace H := Option.bind_eq_some_iff.mp H
  obtain ⟨t366, A30, H⟩ := H
  replace H : (if t366 = true then ((api_Cell_93.f k l0_1 l1_1).bind fun t367 => (some t367)) else (some false)) = some r := H
  have A3 := Aside0.mk A30
  clear A30
  by_cases c4 : t366 = true
  · subst c4
    have H1 : ((api_Cell_93.f k l0_1 l1_1).bind fun t367 => (some t367)) = some r := by rw [if_pos rfl] at H; exact H
    clear H
    have H := H1
    clear H1
    replace H := Option.bind_eq_some_iff.mp H
    obtain ⟨t367, A50, H⟩ := H
    replace H : (some t367) = some r := H
    have A5 := Aside0.mk A50
    clear A50
    obtain rfl := Option.some.inj H
    go_enter Try.func59, Try.ntmps59
    go_wp2_with (first | ((with_reducible refine gate_dst (N := 2) rfl ?_); refine box_event ?hg (N := 2) ?hd (cs := #[.slice A0_0 l0_0.length c0_0, .slice A0_1 l0_1.length c0_1]) (t := 25) ?hr ?_; (case hd => rfl); (case hg => rfl); (case hr => first | (go_simp; done) | (go_simp; rfl)); intro gb364 hg w6 hbox hb; have n0_ := Aside0.mk (below_step beT_ hb); have n1_ := Aside0.mk (hbox); have n2_ := Aside0.mk ((by rw [hg]; exact (below_size beT_) : w.heap.size ≤ gb364)); have n3_ := Aside0.mk ((by rw [hg]; exact (below_size beT_) : w.heap.size ≤ gb364)); clear HB; have HB := n0_; have BK364 := n1_; have GW364 := n2_; have GE364 := n3_; clear n0_ n1_ n2_ n3_; clear hb hbox hg) | ((with_reducible refine gate_dst (N := 3) rfl ?_); refine box_event ?hg (N := 3) ?hd (cs := #[.slice A1_0 l1_0.length c1_0, .slice A1_1 l1_1.length c1_1]) (t := 25) ?hr ?_; (case hd => rfl); (case hg => rfl); (case hr => first | (go_simp; done) | (go_simp; rfl)); intro gb365 hg w7 hbox hb; have n0_ := Aside0.mk (blk_below (g := gb364) (o := .cells #[.slice A0_0 l0_0.length c0_0, .slice A0_1 l0_1.length c0_1] 25 (0, 0)) (bT_ BK364.out) hb); have n1_ := Aside0.mk (below_step beT_ hb); have n2_ := Aside0.mk (hbox); have n3_ := Aside0.mk ((by rw [hg]; exact (below_size beT_) : w.heap.size ≤ gb365)); have n4_ := Aside0.mk ((by rw [hg]; exact (below_size beT_) : w.heap.size ≤ gb365)); have n5_ := Aside0.mk ((by rw [hg]; exact Nat.ne_of_lt (blk_lt (g := gb364) (o := .cells #[.slice A0_0 l0_0.length c0_0, .slice A0_1 l0_1.length c0_1] 25 (0, 0)) (bT_ BK364.out)) : gb364 ≠ gb365)); have n6_ := Aside0.mk ((by rw [hg]; exact Nat.ne_of_gt (blk_lt (g := gb364) (o := .cells #[.slice A0_0 l0_0.length c0_0, .slice A0_1 l0_1.length c0_1] 25 (0, 0)) (bT_ BK364.out)) : gb365 ≠ gb364)); clear BK364; clear HB; have BK364 := n0_; have HB := n1_; have BK365 := n2_; have GW365 := n3_; have GE365 := n4_; have NB364_365 := n5_; have NB365_364 := n6_; clear n0_ n1_ n2_ n3_ n4_ n5_ n6_; clear hb hbox hg; have hnb8 := NB364_365.out; have hnc8 := NB365_364.out; have hcz9_0 : w7.cell? ⟨gb364, 0, none⟩ = some (.slice A0_0 l0_0.length c0_0) := (blk_cell BK364.out 0).trans rfl; have hcz9_1 : w7.cell? ⟨gb364, 1, none⟩ = some (.slice A0_1 l0_1.length c0_1) := (blk_cell BK364.out 1).trans rfl; have hfz9_0 := blk_frozen BK364.out 0; have hfz9_1 := blk_frozen BK364.out 1; have hcz10_0 : w7.cell? ⟨gb365, 0, none⟩ = some (.slice A1_0 l1_0.length c1_0) := (blk_cell BK365.out 0).trans rfl; have hcz10_1 : w7.cell? ⟨gb365, 1, none⟩ = some (.slice A1_1 l1_1.length c1_1) := (blk_cell BK365.out 1).trans rfl; have hfz10_0 := blk_frozen BK365.out 0; have hfz10_1 := blk_frozen BK365.out 1) | ((with_reducible refine gate_callee (f := 92) rfl ?_); refine goesL_ (some 9) rfl rfl Try.func92 (by kernel_rfl) rfl #[.slice A0_0 l0_0.length c0_0, .slice A1_0 l1_0.length c1_0] rfl (by (try simp only [List.map_toArray, List.map_cons, List.map_nil]); first | done | rfl | (simp only [List.length_drop, List.length_take]; rfl)) ?_; (with_reducible refine (api_Map_92.calls k _ _ l0_0 _ _ l1_0 true _ ?side1 ?side2 ?side3 ?side4 A3.out).mono ?_); (case side1 => repeat (first | exact (Kd.C_below HR0_0.out HB.out) | (with_reducible refine Kd.C_alloc ?_ _) | (with_reducible refine Kd.C_drewN ?_ _) | (with_reducible refine Kd.C_drew ?_))); (case side2 => exact HC0_0.out); (case side3 => repeat (first | exact (Kd.C_below HR1_0.out HB.out) | (with_reducible refine Kd.C_alloc ?_ _) | (with_reducible refine Kd.C_drewN ?_ _) | (with_reducible refine Kd.C_drew ?_))); (case side4 => exact HC1_0.out); rintro e w' ⟨rfl, ⟨nd, rfl⟩⟩; refine ⟨_, rfl, ?_⟩) | (go_at_call 93; (with_reducible refine (api_Cell_93.calls k _ _ l0_1 _ _ l1_1 t367 _ ?side1 ?side2 ?side3 ?side4 A5.out).mono ?_); (case side1 => repeat (first | exact (Kd.C_below HR0_1.out beT_) | (with_reducible refine Kd.C_alloc ?_ _) | (with_reducible refine Kd.C_drewN ?_ _) | (with_reducible refine Kd.C_drew ?_))); (case side2 => exact HC0_1.out); (case side3 => repeat (first | exact (Kd.C_below HR1_1.out beT_) | (with_reducible refine Kd.C_alloc ?_ _) | (with_reducible refine Kd.C_drewN ?_ _) | (with_reducible refine Kd.C_drew ?_))); (case side4 => exact HC1_1.out); rintro e w' ⟨rfl, ⟨nd, rfl⟩⟩))
    go_ret
    exact ⟨by first | rfl | (simp [errW_none, errW_some] <;> rfl) | (simp [*, errW_none, errW_some] <;> rfl), by repeat (first | (with_reducible first | exact HB.out | apply below_alloc | apply pw_below_drewN | apply below_drew1 | refine below_set ?_ GE364.out | refine below_set ?_ GE365.out) | exact HB.out)⟩
  replace c4 := Bool.eq_false_iff.mpr c4
  subst c4
  have H1 : (some false) = some r := by rw [if_neg (show ¬ (false = true) by decide)] at H; exact H
  clear H
  have H := H1
  clear H1
  obtain rfl := Option.some.inj H
  go_enter Try.func59, Try.ntmps59
  go_wp2_with (first | ((with_reducible refine gate_dst (N := 2) rfl ?_); refine box_event ?hg (N := 2) ?hd (cs := #[.slice A0_0 l0_0.length c0_0, .slice A0_1 l0_1.length c0_1]) (t := 25) ?hr ?_; (case hd => rfl); (case hg => rfl); (case hr => first | (go_simp; done) | (go_simp; rfl)); intro gb364 hg w11 hbox hb; have n0_ := Aside0.mk (below_step beT_ hb); have n1_ := Aside0.mk (hbox); have n2_ := Aside0.mk ((by rw [hg]; exact (below_size beT_) : w.heap.size ≤ gb364)); have n3_ := Aside0.mk ((by rw [hg]; exact (below_size beT_) : w.heap.size ≤ gb364)); clear HB; have HB := n0_; have BK364 := n1_; have GW364 := n2_; have GE364 := n3_; clear n0_ n1_ n2_ n3_; clear hb hbox hg) | ((with_reducible refine gate_dst (N := 3) rfl ?_); refine box_event ?hg (N := 3) ?hd (cs := #[.slice A1_0 l1_0.length c1_0, .slice A1_1 l1_1.length c1_1]) (t := 25) ?hr ?_; (case hd => rfl); (case hg => rfl); (case hr => first | (go_simp; done) | (go_simp; rfl)); intro gb365 hg w12 hbox hb; have n0_ := Aside0.mk (blk_below (g := gb364) (o := .cells #[.slice A0_0 l0_0.length c0_0, .slice A0_1 l0_1.length c0_1] 25 (0, 0)) (bT_ BK364.out) hb); have n1_ := Aside0.mk (below_step beT_ hb); have n2_ := Aside0.mk (hbox); have n3_ := Aside0.mk ((by rw [hg]; exact (below_size beT_) : w.heap.size ≤ gb365)); have n4_ := Aside0.mk ((by rw [hg]; exact (below_size beT_) : w.heap.size ≤ gb365)); have n5_ := Aside0.mk ((by rw [hg]; exact Nat.ne_of_lt (blk_lt (g := gb364) (o := .cells #[.slice A0_0 l0_0.length c0_0, .slice A0_1 l0_1.length c0_1] 25 (0, 0)) (bT_ BK364.out)) : gb364 ≠ gb365)); have n6_ := Aside0.mk ((by rw [hg]; exact Nat.ne_of_gt (blk_lt (g := gb364) (o := .cells #[.slice A0_0 l0_0.length c0_0, .slice A0_1 l0_1.length c0_1] 25 (0, 0)) (bT_ BK364.out)) : gb365 ≠ gb364)); clear BK364; clear HB; have BK364 := n0_; have HB := n1_; have BK365 := n2_; have GW365 := n3_; have GE365 := n4_; have NB364_365 := n5_; have NB365_364 := n6_; clear n0_ n1_ n2_ n3_ n4_ n5_ n6_; clear hb hbox hg; have hnb13 := NB364_365.out; have hnc13 := NB365_364.out; have hcz14_0 : w12.cell? ⟨gb364, 0, none⟩ = some (.slice A0_0 l0_0.length c0_0) := (blk_cell BK364.out 0).trans rfl; have hcz14_1 : w12.cell? ⟨gb364, 1, none⟩ = some (.slice A0_1 l0_1.length c0_1) := (blk_cell BK364.out 1).trans rfl; have hfz14_0 := blk_frozen BK364.out 0; have hfz14_1 := blk_frozen BK364.out 1; have hcz15_0 : w12.cell? ⟨gb365, 0, none⟩ = some (.slice A1_0 l1_0.length c1_0) := (blk_cell BK365.out 0).trans rfl; have hcz15_1 : w12.cell? ⟨gb365, 1, none⟩ = some (.slice A1_1 l1_1.length c1_1) := (blk_cell BK365.out 1).trans rfl; have hfz15_0 := blk_frozen BK365.out 0; have hfz15_1 := blk_frozen BK365.out 1) | ((with_reducible refine gate_callee (f := 92) rfl ?_); refine goesL_ (some 9) rfl rfl Try.func92 (by kernel_rfl) rfl #[.slice A0_0 l0_0.length c0_0, .slice A1_0 l1_0.length c1_0] rfl (by (try simp only [List.map_toArray, List.map_cons, List.map_nil]); first | done | rfl | (simp only [List.length_drop, List.length_take]; rfl)) ?_; (with_reducible refine (api_Map_92.calls k _ _ l0_0 _ _ l1_0 false _ ?side1 ?side2 ?side3 ?side4 A3.out).mono ?_); (case side1 => repeat (first | exact (Kd.C_below HR0_0.out HB.out) | (with_reducible refine Kd.C_alloc ?_ _) | (with_reducible refine Kd.C_drewN ?_ _) | (with_reducible refine Kd.C_drew ?_))); (case side2 => exact HC0_0.out); (case side3 => repeat (first | exact (Kd.C_below HR1_0.out HB.out) | (with_reducible refine Kd.C_alloc ?_ _) | (with_reducible refine Kd.C_drewN ?_ _) | (with_reducible refine Kd.C_drew ?_))); (case side4 => exact HC1_0.out); rintro e w' ⟨rfl, ⟨nd, rfl⟩⟩; refine ⟨_, rfl, ?_⟩))
  go_ret
  exact ⟨by first | rfl | (simp [errW_none, errW_some] <;> rfl) | (simp [*, errW_none, errW_some] <;> rfl), by repeat (first | (with_reducible first | exact HB.out | apply below_alloc | apply pw_below_drewN | apply below_drew1 | refine below_set ?_ GE364.out | refine below_set ?_ GE365.out) | exact HB.out)⟩

end Go.Proofs.Ytjhfglpgpicmiaa.F
end
section
namespace Go.Proofs.Ytjhfglpgpicmiaa.F
open Go.RowKit Go.Shelf Go.Proofs.YtjhfglpgpicmiaaW.PrintWords Go.Proofs.YtjhfglpgpicmiaaW.PrintLast Go.Proofs.YtjhfglpgpicmiaaW.PrintMore
set_option linter.unusedVariables false
set_option linter.unusedSimpArgs false
theorem eqM_loop (l l' : List SM) (e : l.length = l'.length) (hl : l.length ≤ 1000000) : ∀ (k i : Nat), i ≤ l.length → l.length - i < k → api_Map_92.l0 k l l' (l.length : Int) (i : Int) = some (eqL eqMp (l.drop i) (l'.drop i))
  | 0, i, _, h => by omega
  | k + 1, i, hi, h => by
    unfold api_Map_92.l0
    by_cases hlt : i < l.length
    · have hw : wrap64 ((i : Int) + 1) = ((i + 1 : Nat) : Int) := by unfold wrap64; omega
      rw [if_pos (by omega), if_pos (by omega), if_pos (by omega), if_pos (by omega), mp_getR hlt, mp_getR (by omega), hw, eqM_loop l l' e hl k (i + 1) hlt (by omega), List.drop_eq_getElem_cons hlt, List.drop_eq_getElem_cons (show i < l'.length by omega)]
      rw [show eqL eqMp (l[i] :: l.drop (i + 1)) (l'[i] :: l'.drop (i + 1)) = (eqMp l[i] l'[i] && eqL eqMp (l.drop (i + 1)) (l'.drop (i + 1))) from rfl]
      unfold eqMp
      cases (l[i].f0 == l'[i].f0) <;> cases (l[i].f1 == l'[i].f1) <;> rfl
    rw [if_neg (by omega), List.drop_eq_nil_of_le (by omega), List.drop_eq_nil_of_le (by omega)]
    rfl
theorem eqM_f (l l' : List SM) (hl : l.length ≤ 1000000) (k : Nat) (hk : l.length < k) : api_Map_92.f k l l' = some (eqL eqMp l l') := by
  unfold api_Map_92.f
  by_cases e : l.length = l'.length
  · rw [if_pos (by omega)]
    exact eqM_loop l l' e hl k 0 (Nat.zero_le _) (by omega)
  rw [if_neg (by omega)]
  cases h : eqL eqMp l l' with
  | false => rfl
  | true => exact absurd (eqL_length h) e
theorem eqC_loop (l l' : List SC) (e : l.length = l'.length) (hl : l.length ≤ 1000000) : ∀ (k i : Nat), i ≤ l.length → l.length - i < k → api_Cell_93.l0 k l l' (l.length : Int) (i : Int) = some (eqL eqCl (l.drop i) (l'.drop i))
  | 0, i, _, h => by omega
  | k + 1, i, hi, h => by
    unfold api_Cell_93.l0
    by_cases hlt : i < l.length
    · have hw : wrap64 ((i : Int) + 1) = ((i + 1 : Nat) : Int) := by unfold wrap64; omega
      rw [if_pos (by omega), if_pos (by omega), if_pos (by omega), if_pos (by omega), cl_getR hlt, cl_getR (by omega), hw, eqC_loop l l' e hl k (i + 1) hlt (by omega), List.drop_eq_getElem_cons hlt, List.drop_eq_getElem_cons (show i < l'.length by omega)]
      rw [show eqL eqCl (l[i] :: l.drop (i + 1)) (l'[i] :: l'.drop (i + 1)) = (eqCl l[i] l'[i] && eqL eqCl (l.drop (i + 1)) (l'.drop (i + 1))) from rfl]
      unfold eqCl
      cases (l[i].f0 == l'[i].f0) <;> cases (l[i].f1 == l'[i].f1) <;> rfl
    rw [if_neg (by omega), List.drop_eq_nil_of_le (by omega), List.drop_eq_nil_of_le (by omega)]
    rfl
theorem eqC_f (l l' : List SC) (hl : l.length ≤ 1000000) (k : Nat) (hk : l.length < k) : api_Cell_93.f k l l' = some (eqL eqCl l l') := by
  unfold api_Cell_93.f
  by_cases e : l.length = l'.length
  · rw [if_pos (by omega)]
    exact eqC_loop l l' e hl k 0 (Nat.zero_le _) (by omega)
  rw [if_neg (by omega)]
  cases h : eqL eqCl l l' with
  | false => rfl
  | true => exact absurd (eqL_length h) e
theorem host_Same_spec (l : List SM) (m : List SC) (l' : List SM) (m' : List SC) (hl : l.length ≤ 1000000) (hm : m.length ≤ 1000000) (k : Nat) (hk : l.length + m.length < k) : host_Same.f k l m l' m' = some (sameS l m l' m') := by
  unfold host_Same.f sameS
  rw [eqM_f l l' hl k (by omega), Option.bind_some, eqC_f m m' hm k (by omega)]
  cases eqL eqMp l l' <;> rfl
end Go.Proofs.Ytjhfglpgpicmiaa.F
end
section
namespace Go.Proofs.Ytjhfglpgpicmiaa.F
open Go.RowKit Go.Proofs.YtjhfglpgpicmiaaW.PrintWords Go.Proofs.YtjhfglpgpicmiaaW.PrintLast Go.Proofs.YtjhfglpgpicmiaaW.PrintMore
attribute [local go_sem] max2_int min2_int max_two min_two max_three min_three max_four min_four
set_option linter.unusedVariables false
set_option linter.unusedSimpArgs false

def guest_mapped.l0 : Nat → Int → List (S55) → Int → Int → Option (Int)
  | 0, _, _, _, _ => none
  | k + 1, x1, x8, x9, x10 => if x10 < x9 then (if 0 ≤ x10 then (if x10 < (x8.length : Int) then (if ((rd_T55 x8 x10).f0) = x1 then (some ((rd_T55 x8 x10).f1)) else (guest_mapped.l0 k x1 x8 x9 (wrap64 (x10 + 1)))) else (none)) else (none)) else (some (-1))
def guest_mapped.f (k : Nat) (l0_0 : List (S55)) (l0_1 : List (S60)) (a1 : Int) : Option (Int) := guest_mapped.l0 k a1 l0_0 (l0_0.length : Int) 0
set_option maxHeartbeats 8000000 in
set_option maxRecDepth 100000 in
theorem guest_mapped.calls (k : Nat) (A0_0 : Option Addr) (c0_0 : Nat) (l0_0 : List (S55)) (A0_1 : Option Addr) (c0_1 : Nat) (l0_1 : List (S60)) (a1 : Int) (r : Int) (w : World) (hr0_0 : Kd.C k55 w A0_0 l0_0.length l0_0) (hc0_0 : l0_0.length ≤ c0_0) (hr0_1 : Kd.C k60 w A0_1 l0_1.length l0_1) (hc0_1 : l0_1.length ≤ c0_1) (h : guest_mapped.f k l0_0 l0_1 a1 = some r) :
    Calls Try.prog 52 #[.agg #[.slice A0_0 l0_0.length c0_0, .slice A0_1 l0_1.length c0_1], .int .u64 a1] w fun e w' => e = .returned (.int .i64 r) ∧ Below w.heap.size w w' := by
  have hu25 := Try.underlying25
  have hu55 := Try.underlying55
  have HR0_0 := Aside0.mk hr0_0
  have HC0_0 := Aside0.mk hc0_0
  clear hr0_0 hc0_0
  have HR0_1 := Aside0.mk hr0_1
  have HC0_1 := Aside0.mk hc0_1
  clear hr0_1 hc0_1
  have HB := Aside0.mk (Below.refl w.heap.size w)
  have H : (guest_mapped.l0 k a1 l0_0 (l0_0.length : Int) 0) = some r := h
  clear h
  have H' := Aside0.mk H
  clear H
  go_enter Try.func52, Try.ntmps52
  go_wp2_with (first | ((with_reducible refine gate_dst (N := 2) rfl ?_); refine box_event ?hg (N := 2) ?hd (cs := #[.slice A0_0 l0_0.length c0_0, .slice A0_1 l0_1.length c0_1]) (t := 25) ?hr ?_; (case hd => rfl); (case hg => rfl); (case hr => first | (go_simp; done) | (go_simp; rfl)); intro gb382 hg w3 hbox hb; have n0_ := Aside0.mk (below_step beT_ hb); have n1_ := Aside0.mk (hbox); have n2_ := Aside0.mk ((by rw [hg]; exact (below_size beT_) : w.heap.size ≤ gb382)); have n3_ := Aside0.mk ((by rw [hg]; exact (below_size beT_) : w.heap.size ≤ gb382)); clear HB; have HB := n0_; have BK382 := n1_; have GW382 := n2_; have GE382 := n3_; clear n0_ n1_ n2_ n3_; clear hb hbox hg; have hcz4_0 : w3.cell? ⟨gb382, 0, none⟩ = some (.slice A0_0 l0_0.length c0_0) := (blk_cell BK382.out 0).trans rfl; have hcz4_1 : w3.cell? ⟨gb382, 1, none⟩ = some (.slice A0_1 l0_1.length c0_1) := (blk_cell BK382.out 1).trans rfl; have hfz4_0 := blk_frozen BK382.out 0; have hfz4_1 := blk_frozen BK382.out 1))
  go_loopg [10] k (fun kq v10 w' => ∃ (x10_1 : Int), v10 = .int .i64 x10_1 ∧ Aside0 (guest_mapped.l0 kq a1 l0_0 (l0_0.length : Int) x10_1 = some r) ∧ Aside0 (kq ≤ k) ∧ Aside0 (w'.heap[gb382]? = some (.cells #[(.slice A0_0 l0_0.length c0_0), (.slice A0_1 l0_1.length c0_1)] 25 (0, 0))) ∧ Aside0 (Below w.heap.size w w'))
  case atStart => exact ⟨(0), (by first | rfl | (simp; done) | (simp [*]; done)), H', ⟨Nat.le_refl _⟩, ⟨by (with_reducible repeat (first | refine blk_drewN ?_ _ | refine blk_drew ?_ | refine blk_alloc ?_ _)); exact BK382.out⟩, ⟨by repeat (first | (with_reducible first | exact HB.out | apply below_alloc | apply pw_below_drewN | apply below_drew1 | refine below_set ?_ GE382.out) | exact HB.out)⟩⟩
  case round =>
    clear H'
    try clear p2
    try clear hcz4_0
    try clear hcz4_1
    try clear hfz4_0
    try clear hfz4_1
    obtain ⟨x10_1, rfl, HA, HK1, BK382, HB⟩ := hrel
    cases gk with
    | zero => exact absurd HA.out (by simp [guest_mapped.l0])
    | succ k1 =>
      have H := HA.out
      clear HA
      simp only [guest_mapped.l0] at H
      by_cases c5 : x10_1 < (l0_0.length : Int)
      · rw [if_pos c5] at H
        have c5b0 : decide (x10_1 < (l0_0.length : Int)) = true := decide_eq_true c5
        clear c5
        by_cases c6 : 0 ≤ x10_1
        · rw [if_pos c6] at H
          have c6b0 : decide (0 ≤ x10_1) = true := decide_eq_true c6
          clear c6
          by_cases c7 : x10_1 < (l0_0.length : Int)
          · rw [if_pos c7] at H
            have c7b0 : decide (x10_1 < (l0_0.length : Int)) = true := decide_eq_true c7
            clear c7
            by_cases c8 : ((rd_T55 l0_0 x10_1).f0) = a1
            · rw [if_pos c8] at H
              have c8b0 : (((rd_T55 l0_0 x10_1).f0) == a1) = true := beq_iff_eq.mpr c8
              have c8b1 : (((rd_T55 l0_0 x10_1).f0) != a1) = false := bne_eq_false_iff_eq.mpr c8
              clear c8
              obtain rfl := Option.some.inj H
              have p383 : 0 ≤ (x10_1 : Int) := of_decide_eq_true (by first | (with_reducible assumption) | assumption)
              have q383 : x10_1 < (l0_0.length : Int) := of_decide_eq_true (by first | (with_reducible assumption) | assumption)
              obtain ⟨ad383, e383, hx383_0, hx383_1⟩ := at_T55 HR0_0.out x10_1 p383 q383
              cases e383
              replace hx383_0 := (HB.out.cell (World.block_lt_of_cell? w _ hx383_0)).trans hx383_0
              replace hx383_1 := (HB.out.cell (World.block_lt_of_cell? w _ hx383_1)).trans hx383_1
              replace p383 := eq_true p383
              replace q383 := eq_true q383
              go_wp2_with (first | ((with_reducible refine gate_dst (N := 6) rfl ?_); refine box_event ?hg (N := 6) ?hd (cs := #[.int .u64 0, .int .i64 0]) (t := 55) ?hr ?_; (case hd => rfl); (case hg => rfl); (case hr => first | (go_simp; done) | (go_simp; rfl)); intro gb384 hg w9 hbox hb; have n0_ := Aside0.mk (blk_below (g := gb382) (o := .cells #[.slice (some ad383) l0_0.length c0_0, .slice A0_1 l0_1.length c0_1] 25 (0, 0)) (bT_ BK382.out) hb); have n1_ := Aside0.mk (below_step beT_ hb); have n2_ := Aside0.mk (hbox); have n3_ := Aside0.mk ((by rw [hg]; exact (below_size beT_) : w.heap.size ≤ gb384)); have n4_ := Aside0.mk ((by rw [hg]; exact (below_size beT_) : w.heap.size ≤ gb384)); have n5_ := Aside0.mk ((by rw [hg]; exact Nat.ne_of_lt (blk_lt (g := gb382) (o := .cells #[.slice (some ad383) l0_0.length c0_0, .slice A0_1 l0_1.length c0_1] 25 (0, 0)) (bT_ BK382.out)) : gb382 ≠ gb384)); have n6_ := Aside0.mk ((by rw [hg]; exact Nat.ne_of_gt (blk_lt (g := gb382) (o := .cells #[.slice (some ad383) l0_0.length c0_0, .slice A0_1 l0_1.length c0_1] 25 (0, 0)) (bT_ BK382.out)) : gb384 ≠ gb382)); clear BK382; clear HB; have BK382 := n0_; have HB := n1_; have BK384 := n2_; have GW384 := n3_; have GE384 := n4_; have NB382_384 := n5_; have NB384_382 := n6_; clear n0_ n1_ n2_ n3_ n4_ n5_ n6_; clear hb hbox hg; have hnb10 := NB384_382.out; have hnc10 := NB382_384.out; have hcz11_0 : w9.cell? ⟨gb384, 0, none⟩ = some (.int .u64 0) := (blk_cell BK384.out 0).trans rfl; have hcz11_1 : w9.cell? ⟨gb384, 1, none⟩ = some (.int .i64 0) := (blk_cell BK384.out 1).trans rfl; have hfz11_0 := blk_frozen BK384.out 0; have hfz11_1 := blk_frozen BK384.out 1))
              go_ret
              exact ⟨by first | rfl | (simp [errW_none, errW_some] <;> rfl) | (simp [*, errW_none, errW_some] <;> rfl), by repeat (first | (with_reducible first | exact HB.out | apply below_alloc | apply pw_below_drewN | apply below_drew1 | refine below_set ?_ GE382.out | refine below_set ?_ GE384.out) | exact HB.out)⟩
            rw [if_neg c8] at H
            have c8b0 : (((rd_T55 l0_0 x10_1).f0) == a1) = false := beq_eq_false_iff_ne.mpr c8
            have c8b1 : (((rd_T55 l0_0 x10_1).f0) != a1) = true := bne_iff_ne.mpr c8
            have H' := Aside0.mk H
            clear H
            have p383 : 0 ≤ (x10_1 : Int) := of_decide_eq_true (by first | (with_reducible assumption) | assumption)
            have q383 : x10_1 < (l0_0.length : Int) := of_decide_eq_true (by first | (with_reducible assumption) | assumption)
            obtain ⟨ad383, e383, hx383_0, hx383_1⟩ := at_T55 HR0_0.out x10_1 p383 q383
            cases e383
            replace hx383_0 := (HB.out.cell (World.block_lt_of_cell? w _ hx383_0)).trans hx383_0
            replace hx383_1 := (HB.out.cell (World.block_lt_of_cell? w _ hx383_1)).trans hx383_1
            replace p383 := eq_true p383
            replace q383 := eq_true q383
            go_wp2_with (first | ((with_reducible refine gate_dst (N := 6) rfl ?_); refine box_event ?hg (N := 6) ?hd (cs := #[.int .u64 0, .int .i64 0]) (t := 55) ?hr ?_; (case hd => rfl); (case hg => rfl); (case hr => first | (go_simp; done) | (go_simp; rfl)); intro gb384 hg w12 hbox hb; have n0_ := Aside0.mk (blk_below (g := gb382) (o := .cells #[.slice (some ad383) l0_0.length c0_0, .slice A0_1 l0_1.length c0_1] 25 (0, 0)) (bT_ BK382.out) hb); have n1_ := Aside0.mk (below_step beT_ hb); have n2_ := Aside0.mk (hbox); have n3_ := Aside0.mk ((by rw [hg]; exact (below_size beT_) : w.heap.size ≤ gb384)); have n4_ := Aside0.mk ((by rw [hg]; exact (below_size beT_) : w.heap.size ≤ gb384)); have n5_ := Aside0.mk ((by rw [hg]; exact Nat.ne_of_lt (blk_lt (g := gb382) (o := .cells #[.slice (some ad383) l0_0.length c0_0, .slice A0_1 l0_1.length c0_1] 25 (0, 0)) (bT_ BK382.out)) : gb382 ≠ gb384)); have n6_ := Aside0.mk ((by rw [hg]; exact Nat.ne_of_gt (blk_lt (g := gb382) (o := .cells #[.slice (some ad383) l0_0.length c0_0, .slice A0_1 l0_1.length c0_1] 25 (0, 0)) (bT_ BK382.out)) : gb384 ≠ gb382)); clear BK382; clear HB; have BK382 := n0_; have HB := n1_; have BK384 := n2_; have GW384 := n3_; have GE384 := n4_; have NB382_384 := n5_; have NB384_382 := n6_; clear n0_ n1_ n2_ n3_ n4_ n5_ n6_; clear hb hbox hg; have hnb13 := NB384_382.out; have hnc13 := NB382_384.out; have hcz14_0 : w12.cell? ⟨gb384, 0, none⟩ = some (.int .u64 0) := (blk_cell BK384.out 0).trans rfl; have hcz14_1 : w12.cell? ⟨gb384, 1, none⟩ = some (.int .i64 0) := (blk_cell BK384.out 1).trans rfl; have hfz14_0 := blk_frozen BK384.out 0; have hfz14_1 := blk_frozen BK384.out 1))
            go_roundg k1
            case measure => have := HK1.out; omega
            case rel => exact ⟨(wrap64 (x10_1 + 1)), (by first | rfl | (simp; done) | (simp [*]; done)), H', ⟨by have := HK1.out; omega⟩, ⟨by (with_reducible repeat (first | refine blk_drewN ?_ _ | refine blk_drew ?_ | refine blk_alloc ?_ _)); refine blk_far ?_ NB382_384.out _; (with_reducible repeat (first | refine blk_drewN ?_ _ | refine blk_drew ?_ | refine blk_alloc ?_ _)); refine blk_far ?_ NB382_384.out _; (with_reducible repeat (first | refine blk_drewN ?_ _ | refine blk_drew ?_ | refine blk_alloc ?_ _)); exact BK382.out⟩, ⟨by repeat (first | (with_reducible first | exact HB.out | apply below_alloc | apply pw_below_drewN | apply below_drew1 | refine below_set ?_ GE382.out | refine below_set ?_ GE384.out) | exact HB.out)⟩⟩
          rw [if_neg c7] at H
          exact absurd H (by simp)
        rw [if_neg c6] at H
        exact absurd H (by simp)
      rw [if_neg c5] at H
      have c5b0 : decide (x10_1 < (l0_0.length : Int)) = false := decide_eq_false c5
      clear c5
      obtain rfl := Option.some.inj H
      go_wp2
      go_ret
      exact ⟨by first | rfl | (simp [errW_none, errW_some] <;> rfl) | (simp [*, errW_none, errW_some] <;> rfl), by repeat (first | (with_reducible first | exact HB.out | apply below_alloc | apply pw_below_drewN | apply below_drew1 | refine below_set ?_ GE382.out) | exact HB.out)⟩

end Go.Proofs.Ytjhfglpgpicmiaa.F
end
section
namespace Go.Proofs.Ytjhfglpgpicmiaa.F
open Go.RowKit Go.Proofs.YtjhfglpgpicmiaaW.PrintWords Go.Proofs.YtjhfglpgpicmiaaW.PrintLast Go.Proofs.YtjhfglpgpicmiaaW.PrintMore
attribute [local go_sem] max2_int min2_int max_two min_two max_three min_three max_four min_four
set_option linter.unusedVariables false
set_option linter.unusedSimpArgs false

def guest_reach.f (l0_0 : List (S55)) (l0_1 : List (S60)) (a0_2 : Int) (l0_3 : List (S39)) (a1 : Int) : Option (Bool) := if (IntKind.u64.wrap (a1 - a0_2)) < 4294967296 then (some (decide (a1 ≥ a0_2))) else (some false)
set_option maxHeartbeats 8000000 in
set_option maxRecDepth 100000 in
theorem guest_reach.calls (A0_0 : Option Addr) (c0_0 : Nat) (l0_0 : List (S55)) (A0_1 : Option Addr) (c0_1 : Nat) (l0_1 : List (S60)) (a0_2 : Int) (A0_3 : Option Addr) (c0_3 : Nat) (l0_3 : List (S39)) (a1 : Int) (r : Bool) (w : World) (hr0_0 : Kd.C k55 w A0_0 l0_0.length l0_0) (hc0_0 : l0_0.length ≤ c0_0) (hr0_1 : Kd.C k60 w A0_1 l0_1.length l0_1) (hc0_1 : l0_1.length ≤ c0_1) (hr0_3 : Kd.C k39 w A0_3 l0_3.length l0_3) (hc0_3 : l0_3.length ≤ c0_3) (h : guest_reach.f l0_0 l0_1 a0_2 l0_3 a1 = some r) :
    Calls Try.prog 54 #[.agg #[.slice A0_0 l0_0.length c0_0, .slice A0_1 l0_1.length c0_1, .int .u64 a0_2, .slice A0_3 l0_3.length c0_3], .int .u64 a1] w fun e w' => e = .returned (.bool r) ∧ Below w.heap.size w w' := by
  have hu29 := Try.underlying29
  have HR0_0 := Aside0.mk hr0_0
  have HC0_0 := Aside0.mk hc0_0
  clear hr0_0 hc0_0
  have HR0_1 := Aside0.mk hr0_1
  have HC0_1 := Aside0.mk hc0_1
  clear hr0_1 hc0_1
  have HR0_3 := Aside0.mk hr0_3
  have HC0_3 := Aside0.mk hc0_3
  clear hr0_3 hc0_3
  have HB := Aside0.mk (Below.refl w.heap.size w)
  have H : (if (IntKind.u64.wrap (a1 - a0_2)) < 4294967296 then (some (decide (a1 ≥ a0_2))) else (some false)) = some r := h
  clear h
  by_cases c3 : (IntKind.u64.wrap (a1 - a0_2)) < 4294967296
  · rw [if_pos c3] at H
    have c3b0 : decide ((IntKind.u64.wrap (a1 - a0_2)) < 4294967296) = true := decide_eq_true c3
    clear c3
    obtain rfl := Option.some.inj H
    go_enter Try.func54, Try.ntmps54
    go_wp2_with (first | ((with_reducible refine gate_dst (N := 2) rfl ?_); refine box_event ?hg (N := 2) ?hd (cs := #[.slice A0_0 l0_0.length c0_0, .slice A0_1 l0_1.length c0_1, .int .u64 a0_2, .slice A0_3 l0_3.length c0_3]) (t := 29) ?hr ?_; (case hd => rfl); (case hg => rfl); (case hr => first | (go_simp; done) | (go_simp; rfl)); intro gb385 hg w4 hbox hb; have n0_ := Aside0.mk (below_step beT_ hb); have n1_ := Aside0.mk (hbox); have n2_ := Aside0.mk ((by rw [hg]; exact (below_size beT_) : w.heap.size ≤ gb385)); have n3_ := Aside0.mk ((by rw [hg]; exact (below_size beT_) : w.heap.size ≤ gb385)); clear HB; have HB := n0_; have BK385 := n1_; have GW385 := n2_; have GE385 := n3_; clear n0_ n1_ n2_ n3_; clear hb hbox hg; have hcz5_0 : w4.cell? ⟨gb385, 0, none⟩ = some (.slice A0_0 l0_0.length c0_0) := (blk_cell BK385.out 0).trans rfl; have hcz5_1 : w4.cell? ⟨gb385, 1, none⟩ = some (.slice A0_1 l0_1.length c0_1) := (blk_cell BK385.out 1).trans rfl; have hcz5_2 : w4.cell? ⟨gb385, 2, none⟩ = some (.int .u64 a0_2) := (blk_cell BK385.out 2).trans rfl; have hcz5_3 : w4.cell? ⟨gb385, 3, none⟩ = some (.slice A0_3 l0_3.length c0_3) := (blk_cell BK385.out 3).trans rfl; have hfz5_0 := blk_frozen BK385.out 0; have hfz5_1 := blk_frozen BK385.out 1; have hfz5_2 := blk_frozen BK385.out 2; have hfz5_3 := blk_frozen BK385.out 3))
    go_ret
    exact ⟨by first | rfl | (simp [errW_none, errW_some] <;> rfl) | (simp [*, errW_none, errW_some] <;> rfl), by repeat (first | (with_reducible first | exact HB.out | apply below_alloc | apply pw_below_drewN | apply below_drew1 | refine below_set ?_ GE385.out) | exact HB.out)⟩
  rw [if_neg c3] at H
  have c3b0 : decide ((IntKind.u64.wrap (a1 - a0_2)) < 4294967296) = false := decide_eq_false c3
  clear c3
  obtain rfl := Option.some.inj H
  go_enter Try.func54, Try.ntmps54
  go_wp2_with (first | ((with_reducible refine gate_dst (N := 2) rfl ?_); refine box_event ?hg (N := 2) ?hd (cs := #[.slice A0_0 l0_0.length c0_0, .slice A0_1 l0_1.length c0_1, .int .u64 a0_2, .slice A0_3 l0_3.length c0_3]) (t := 29) ?hr ?_; (case hd => rfl); (case hg => rfl); (case hr => first | (go_simp; done) | (go_simp; rfl)); intro gb385 hg w6 hbox hb; have n0_ := Aside0.mk (below_step beT_ hb); have n1_ := Aside0.mk (hbox); have n2_ := Aside0.mk ((by rw [hg]; exact (below_size beT_) : w.heap.size ≤ gb385)); have n3_ := Aside0.mk ((by rw [hg]; exact (below_size beT_) : w.heap.size ≤ gb385)); clear HB; have HB := n0_; have BK385 := n1_; have GW385 := n2_; have GE385 := n3_; clear n0_ n1_ n2_ n3_; clear hb hbox hg; have hcz7_0 : w6.cell? ⟨gb385, 0, none⟩ = some (.slice A0_0 l0_0.length c0_0) := (blk_cell BK385.out 0).trans rfl; have hcz7_1 : w6.cell? ⟨gb385, 1, none⟩ = some (.slice A0_1 l0_1.length c0_1) := (blk_cell BK385.out 1).trans rfl; have hcz7_2 : w6.cell? ⟨gb385, 2, none⟩ = some (.int .u64 a0_2) := (blk_cell BK385.out 2).trans rfl; have hcz7_3 : w6.cell? ⟨gb385, 3, none⟩ = some (.slice A0_3 l0_3.length c0_3) := (blk_cell BK385.out 3).trans rfl; have hfz7_0 := blk_frozen BK385.out 0; have hfz7_1 := blk_frozen BK385.out 1; have hfz7_2 := blk_frozen BK385.out 2; have hfz7_3 := blk_frozen BK385.out 3))
  go_ret
  exact ⟨by first | rfl | (simp [errW_none, errW_some] <;> rfl) | (simp [*, errW_none, errW_some] <;> rfl), by repeat (first | (with_reducible first | exact HB.out | apply below_alloc | apply pw_below_drewN | apply below_drew1 | refine below_set ?_ GE385.out) | exact HB.out)⟩

end Go.Proofs.Ytjhfglpgpicmiaa.F
end
section
namespace Go.Proofs.Ytjhfglpgpicmiaa.F
open Go.RowKit Go.Proofs.YtjhfglpgpicmiaaW.PrintWords Go.Proofs.YtjhfglpgpicmiaaW.PrintLast Go.Proofs.YtjhfglpgpicmiaaW.PrintMore
attribute [local go_sem] max2_int min2_int max_two min_two max_three min_three max_four min_four
set_option linter.unusedVariables false
set_option linter.unusedSimpArgs false

def guest_Prot.f (l0_0 : List (S55)) (l0_1 : List (S60)) (a0_2 : Int) (l0_3 : List (S39)) (a1 : Int) : Option (Int) := (guest_at.f l0_3 a1).bind fun bt375 => (if bt375.2 = true then (if 0 ≤ bt375.1 then (if bt375.1 < (l0_3.length : Int) then (some ((rd_T39 l0_3 bt375.1).f1)) else (none)) else (none)) else (some (-1)))
set_option maxHeartbeats 8000000 in
set_option maxRecDepth 100000 in
theorem guest_Prot.calls (A0_0 : Option Addr) (c0_0 : Nat) (l0_0 : List (S55)) (A0_1 : Option Addr) (c0_1 : Nat) (l0_1 : List (S60)) (a0_2 : Int) (A0_3 : Option Addr) (c0_3 : Nat) (l0_3 : List (S39)) (a1 : Int) (r : Int) (w : World) (hr0_0 : Kd.C k55 w A0_0 l0_0.length l0_0) (hc0_0 : l0_0.length ≤ c0_0) (hr0_1 : Kd.C k60 w A0_1 l0_1.length l0_1) (hc0_1 : l0_1.length ≤ c0_1) (hr0_3 : Kd.C k39 w A0_3 l0_3.length l0_3) (hc0_3 : l0_3.length ≤ c0_3) (h : guest_Prot.f l0_0 l0_1 a0_2 l0_3 a1 = some r) :
    Calls Try.prog 25 #[.agg #[.slice A0_0 l0_0.length c0_0, .slice A0_1 l0_1.length c0_1, .int .u64 a0_2, .slice A0_3 l0_3.length c0_3], .int .u32 a1] w fun e w' => e = .returned (.int .i64 r) ∧ Below w.heap.size w w' := by
  have hu29 := Try.underlying29
  have HR0_0 := Aside0.mk hr0_0
  have HC0_0 := Aside0.mk hc0_0
  clear hr0_0 hc0_0
  have HR0_1 := Aside0.mk hr0_1
  have HC0_1 := Aside0.mk hc0_1
  clear hr0_1 hc0_1
  have HR0_3 := Aside0.mk hr0_3
  have HC0_3 := Aside0.mk hc0_3
  clear hr0_3 hc0_3
  have HB := Aside0.mk (Below.refl w.heap.size w)
  have H : ((guest_at.f l0_3 a1).bind fun bt375 => (if bt375.2 = true then (if 0 ≤ bt375.1 then (if bt375.1 < (l0_3.length : Int) then (some ((rd_T39 l0_3 bt375.1).f1)) else (none)) else (none)) else (some (-1)))) = some r := h
  clear h
  replace H := Option.bind_eq_some_iff.mp H
  obtain ⟨⟨t375, t376⟩, A30, H⟩ := H
  replace H : (if t376 = true then (if 0 ≤ t375 then (if t375 < (l0_3.length : Int) then (some ((rd_T39 l0_3 t375).f1)) else (none)) else (none)) else (some (-1))) = some r := H
  have A3 := Aside0.mk A30
  clear A30
  by_cases c4 : t376 = true
  · subst c4
    have H1 : (if 0 ≤ t375 then (if t375 < (l0_3.length : Int) then (some ((rd_T39 l0_3 t375).f1)) else (none)) else (none)) = some r := by rw [if_pos rfl] at H; exact H
    clear H
    have H := H1
    clear H1
    by_cases c5 : 0 ≤ t375
    · rw [if_pos c5] at H
      have c5b0 : decide (0 ≤ t375) = true := decide_eq_true c5
      clear c5
      by_cases c6 : t375 < (l0_3.length : Int)
      · rw [if_pos c6] at H
        have c6b0 : decide (t375 < (l0_3.length : Int)) = true := decide_eq_true c6
        clear c6
        obtain rfl := Option.some.inj H
        go_enter Try.func25, Try.ntmps25
        go_wp2_with (first | ((with_reducible refine gate_dst (N := 2) rfl ?_); refine box_event ?hg (N := 2) ?hd (cs := #[.slice A0_0 l0_0.length c0_0, .slice A0_1 l0_1.length c0_1, .int .u64 a0_2, .slice A0_3 l0_3.length c0_3]) (t := 29) ?hr ?_; (case hd => rfl); (case hg => rfl); (case hr => first | (go_simp; done) | (go_simp; rfl)); intro gb374 hg w7 hbox hb; have n0_ := Aside0.mk (below_step beT_ hb); have n1_ := Aside0.mk (hbox); have n2_ := Aside0.mk ((by rw [hg]; exact (below_size beT_) : w.heap.size ≤ gb374)); have n3_ := Aside0.mk ((by rw [hg]; exact (below_size beT_) : w.heap.size ≤ gb374)); clear HB; have HB := n0_; have BK374 := n1_; have GW374 := n2_; have GE374 := n3_; clear n0_ n1_ n2_ n3_; clear hb hbox hg; have hcz8_0 : w7.cell? ⟨gb374, 0, none⟩ = some (.slice A0_0 l0_0.length c0_0) := (blk_cell BK374.out 0).trans rfl; have hcz8_1 : w7.cell? ⟨gb374, 1, none⟩ = some (.slice A0_1 l0_1.length c0_1) := (blk_cell BK374.out 1).trans rfl; have hcz8_2 : w7.cell? ⟨gb374, 2, none⟩ = some (.int .u64 a0_2) := (blk_cell BK374.out 2).trans rfl; have hcz8_3 : w7.cell? ⟨gb374, 3, none⟩ = some (.slice A0_3 l0_3.length c0_3) := (blk_cell BK374.out 3).trans rfl; have hfz8_0 := blk_frozen BK374.out 0; have hfz8_1 := blk_frozen BK374.out 1; have hfz8_2 := blk_frozen BK374.out 2; have hfz8_3 := blk_frozen BK374.out 3) | ((with_reducible refine gate_callee (f := 38) rfl ?_); refine goesL_ (some 11) rfl rfl Try.func38 (by kernel_rfl) rfl #[.slice A0_3 l0_3.length c0_3, .int .u32 a1] rfl (by (try simp only [List.map_toArray, List.map_cons, List.map_nil]); first | done | rfl | (simp only [List.length_drop, List.length_take]; rfl)) ?_; (with_reducible refine (guest_at.calls _ _ l0_3 a1 t375 true _ ?side1 ?side2 A3.out).mono ?_); (case side1 => repeat (first | exact (Kd.C_below HR0_3.out HB.out) | (with_reducible refine Kd.C_alloc ?_ _) | (with_reducible refine Kd.C_drewN ?_ _) | (with_reducible refine Kd.C_drew ?_))); (case side2 => exact HC0_3.out); rintro e w9 ⟨rfl, hb⟩; refine ⟨_, rfl, ?_⟩; have n0_ := Aside0.mk (blk_below (g := gb374) (o := .cells #[.slice A0_0 l0_0.length c0_0, .slice A0_1 l0_1.length c0_1, .int .u64 a0_2, .slice A0_3 l0_3.length c0_3] 29 (0, 0)) (bT_ BK374.out) hb); have n1_ := Aside0.mk (below_step beT_ hb); clear BK374; clear HB; have BK374 := n0_; have HB := n1_; clear n0_ n1_; (try clear hb); (try clear hb2); (try clear hk); (try clear hi); have hcz10_0 : w9.cell? ⟨gb374, 0, none⟩ = some (.slice A0_0 l0_0.length c0_0) := (blk_cell BK374.out 0).trans rfl; have hcz10_1 : w9.cell? ⟨gb374, 1, none⟩ = some (.slice A0_1 l0_1.length c0_1) := (blk_cell BK374.out 1).trans rfl; have hcz10_2 : w9.cell? ⟨gb374, 2, none⟩ = some (.int .u64 a0_2) := (blk_cell BK374.out 2).trans rfl; have hcz10_3 : w9.cell? ⟨gb374, 3, none⟩ = some (.slice A0_3 l0_3.length c0_3) := (blk_cell BK374.out 3).trans rfl; have hfz10_0 := blk_frozen BK374.out 0; have hfz10_1 := blk_frozen BK374.out 1; have hfz10_2 := blk_frozen BK374.out 2; have hfz10_3 := blk_frozen BK374.out 3; have p377 : 0 ≤ (t375 : Int) := of_decide_eq_true (by first | (with_reducible assumption) | assumption); have q377 : t375 < (l0_3.length : Int) := of_decide_eq_true (by first | (with_reducible assumption) | assumption); obtain ⟨ad377, e377, hx377_0, hx377_1⟩ := at_T39 HR0_3.out t375 p377 q377; cases e377; replace hx377_0 := (HB.out.cell (World.block_lt_of_cell? w _ hx377_0)).trans hx377_0; replace hx377_1 := (HB.out.cell (World.block_lt_of_cell? w _ hx377_1)).trans hx377_1; replace p377 := eq_true p377; replace q377 := eq_true q377))
        go_ret
        exact ⟨by first | rfl | (simp [errW_none, errW_some] <;> rfl) | (simp [*, errW_none, errW_some] <;> rfl), by repeat (first | (with_reducible first | exact HB.out | apply below_alloc | apply pw_below_drewN | apply below_drew1 | refine below_set ?_ GE374.out) | exact HB.out)⟩
      rw [if_neg c6] at H
      exact absurd H (by simp)
    rw [if_neg c5] at H
    exact absurd H (by simp)
  replace c4 := Bool.eq_false_iff.mpr c4
  subst c4
  have H1 : (some (-1)) = some r := by rw [if_neg (show ¬ (false = true) by decide)] at H; exact H
  clear H
  have H := H1
  clear H1
  obtain rfl := Option.some.inj H
  go_enter Try.func25, Try.ntmps25
  go_wp2_with (first | ((with_reducible refine gate_dst (N := 2) rfl ?_); refine box_event ?hg (N := 2) ?hd (cs := #[.slice A0_0 l0_0.length c0_0, .slice A0_1 l0_1.length c0_1, .int .u64 a0_2, .slice A0_3 l0_3.length c0_3]) (t := 29) ?hr ?_; (case hd => rfl); (case hg => rfl); (case hr => first | (go_simp; done) | (go_simp; rfl)); intro gb374 hg w11 hbox hb; have n0_ := Aside0.mk (below_step beT_ hb); have n1_ := Aside0.mk (hbox); have n2_ := Aside0.mk ((by rw [hg]; exact (below_size beT_) : w.heap.size ≤ gb374)); have n3_ := Aside0.mk ((by rw [hg]; exact (below_size beT_) : w.heap.size ≤ gb374)); clear HB; have HB := n0_; have BK374 := n1_; have GW374 := n2_; have GE374 := n3_; clear n0_ n1_ n2_ n3_; clear hb hbox hg; have hcz12_0 : w11.cell? ⟨gb374, 0, none⟩ = some (.slice A0_0 l0_0.length c0_0) := (blk_cell BK374.out 0).trans rfl; have hcz12_1 : w11.cell? ⟨gb374, 1, none⟩ = some (.slice A0_1 l0_1.length c0_1) := (blk_cell BK374.out 1).trans rfl; have hcz12_2 : w11.cell? ⟨gb374, 2, none⟩ = some (.int .u64 a0_2) := (blk_cell BK374.out 2).trans rfl; have hcz12_3 : w11.cell? ⟨gb374, 3, none⟩ = some (.slice A0_3 l0_3.length c0_3) := (blk_cell BK374.out 3).trans rfl; have hfz12_0 := blk_frozen BK374.out 0; have hfz12_1 := blk_frozen BK374.out 1; have hfz12_2 := blk_frozen BK374.out 2; have hfz12_3 := blk_frozen BK374.out 3) | ((with_reducible refine gate_callee (f := 38) rfl ?_); refine goesL_ (some 11) rfl rfl Try.func38 (by kernel_rfl) rfl #[.slice A0_3 l0_3.length c0_3, .int .u32 a1] rfl (by (try simp only [List.map_toArray, List.map_cons, List.map_nil]); first | done | rfl | (simp only [List.length_drop, List.length_take]; rfl)) ?_; (with_reducible refine (guest_at.calls _ _ l0_3 a1 t375 false _ ?side1 ?side2 A3.out).mono ?_); (case side1 => repeat (first | exact (Kd.C_below HR0_3.out HB.out) | (with_reducible refine Kd.C_alloc ?_ _) | (with_reducible refine Kd.C_drewN ?_ _) | (with_reducible refine Kd.C_drew ?_))); (case side2 => exact HC0_3.out); rintro e w13 ⟨rfl, hb⟩; refine ⟨_, rfl, ?_⟩; have n0_ := Aside0.mk (blk_below (g := gb374) (o := .cells #[.slice A0_0 l0_0.length c0_0, .slice A0_1 l0_1.length c0_1, .int .u64 a0_2, .slice A0_3 l0_3.length c0_3] 29 (0, 0)) (bT_ BK374.out) hb); have n1_ := Aside0.mk (below_step beT_ hb); clear BK374; clear HB; have BK374 := n0_; have HB := n1_; clear n0_ n1_; (try clear hb); (try clear hb2); (try clear hk); (try clear hi)))
  go_ret
  exact ⟨by first | rfl | (simp [errW_none, errW_some] <;> rfl) | (simp [*, errW_none, errW_some] <;> rfl), by repeat (first | (with_reducible first | exact HB.out | apply below_alloc | apply pw_below_drewN | apply below_drew1 | refine below_set ?_ GE374.out) | exact HB.out)⟩

end Go.Proofs.Ytjhfglpgpicmiaa.F
end
