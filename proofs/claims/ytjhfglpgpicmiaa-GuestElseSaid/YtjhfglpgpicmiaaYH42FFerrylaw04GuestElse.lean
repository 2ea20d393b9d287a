import Derived.Below
import Derived.Deep.Draws
import Derived.Deep.AppendLies
import Derived.Maps.AppendAt
import Derived.OwnWalk
import Derived.Laws.BytesArg
import Derived.Laws.MakeOwn
import Derived.Laws.OwnMore
import Derived.Deep.OwnRows
import Derived.Tactics
import Derived.Lib.ConvBytes
import Derived.Laws.Slices
import Derived.WalkKit
import Derived.KernelRfl
import Derived.RowKit3
import Derived.Deep.LoopGhost
import Derived.Deep.QuietTactic
import Derived.BigQuiet
import Derived.WideLaws
import Derived.Deep.DeepCutAuto
import Derived.Deep.CutBlock
import Derived.Deep.RegionHeld3
import Derived.Laws.Rows
import Derived.Lib.AppendStr
import Derived.ArgAppend
import Derived.Laws.IdiomCopy
import Derived.RowKit
import Derived.OrdersHeld
import Derived.Laws.BitsLemmas
import Derived.Laws.StructEq
import Derived.OwnWalkIn
import Derived.WalkSmall
import Derived.Laws.ResultCell
import Derived.ProofKit
import Derived.Lib.Hide
import Derived.Shelf.RegionOpen
import Derived.Shelf.Abstract
import Derived.Lib.SliceRun
import Derived.Shelf.Spec.SlicesInsertGrow
import Derived.OpenShut
import Derived.Deep.Slices
import Derived.SizedLaws
import Derived.RangeFuncNested
import Derived.RangeFuncBound
import Derived.RangeFuncCalls
import Derived.RangeFuncLeaves
import Derived.RangeFuncWrites
import Derived.TacticsInMore
import Derived.LoopNIn
import Derived.LoopIn
import Derived.Stop.RegionWithIn
import Derived.Test.YtjhfglpgpicmiaaZF0
import Derived.Test.YtjhfglpgpicmiaaYA0
import Derived.Test.YtjhfglpgpicmiaaYA4HHost3
import Derived.Test.YtjhfglpgpicmiaaYA7Twice
import Derived.Test.YtjhfglpgpicmiaaYA8FFerryref04Fit
import Derived.Test.YtjhfglpgpicmiaaYA11
import Derived.Test.YtjhfglpgpicmiaaYA12FFerryref03Same
import Derived.Test.YtjhfglpgpicmiaaYA13
import Derived.Test.YtjhfglpgpicmiaaYA16HGuest7
import Derived.Test.YtjhfglpgpicmiaaYA17
import Derived.Test.YtjhfglpgpicmiaaYA18FFerrylaw04Awake
import Derived.Test.YtjhfglpgpicmiaaYH37
import Derived.Test.YtjhfglpgpicmiaaYH38FGuestProtect
import Derived.Test.YtjhfglpgpicmiaaYH40FFerrylaw04Far
section
namespace Go.Proofs.Ytjhfglpgpicmiaa.F
open Go.RowKit Go.Proofs.YtjhfglpgpicmiaaW.PrintWords Go.Proofs.YtjhfglpgpicmiaaW.PrintLast Go.Proofs.YtjhfglpgpicmiaaW.PrintMore
attribute [local go_sem] max2_int min2_int max_two min_two max_three min_three max_four min_four
attribute [local go_sem] cell_twice
set_option linter.unusedVariables false
set_option linter.unusedSimpArgs false

mutual
def ferrylaw04_GuestElse.j0 : Nat → Int → Int → Int → Int → Bool → List (S55) → List (S60) → Int → List (S39) → Option (Bool)
  | 0, _, _, _, _, _, _, _, _, _ => none
  | k + 1, x1, x2, x3, x4, x19, x558000, x558001, x558002, x558003 => if x19 = true then ((ferrylaw04_awake.f k).bind fun t560 => (some t560)) else (if (Int.tmod x4 3) = 0 then ((guest_Map.f x558000 x558001 x558002 x558003 x1 x2 x3).bind fun bt562 => (ferrylaw04_GuestElse.j1 k x558000 x558001 x558002 x558003 bt562.1 bt562.2.1 bt562.2.2.1 bt562.2.2.2.1)) else (if (Int.tmod x4 3) = 1 then ((guest_Unmap.f x558000 x558001 x558002 x558003 x1 x2).bind fun bt573 => (ferrylaw04_GuestElse.j1 k x558000 x558001 x558002 x558003 bt573.1 bt573.2.1 bt573.2.2.1 bt573.2.2.2.1)) else ((guest_Protect.f k x558000 x558001 x558002 x558003 x1 x2 x3).bind fun bt584 => (ferrylaw04_GuestElse.j1 k x558000 x558001 x558002 x558003 bt584.1 bt584.2.1 bt584.2.2.1 bt584.2.2.2.1))))
def ferrylaw04_GuestElse.j1 : Nat → List (S55) → List (S60) → Int → List (S39) → List (S55) → List (S60) → Int → List (S39) → Option (Bool)
  | 0, _, _, _, _, _, _, _, _ => none
  | k + 1, x558000, x558001, x558002, x558003, x562000, x562001, x562002, x562003 => (ferrylaw04_far.f k x558000 x558001 x558002 x558003).bind fun bt595 => ((ferrylaw04_far.f k x562000 x562001 x562002 x562003).bind fun bt601 => ((ferryref03_Same.f k bt595.1 bt595.2 bt601.1 bt601.2).bind fun t607 => (if t607 = true then (if x562002 = x558002 then ((ferrylaw04_awake.f k).bind fun t608 => (some t608)) else (none)) else (none))))
end
def ferrylaw04_GuestElse.f (k : Nat) (l0_0 : List (S55)) (l0_1 : List (S60)) (a0_2 : Int) (l0_3 : List (S39)) (a1 : Int) (a2 : Int) (a3 : Int) (a4 : Int) : Option (Bool) := (ferrylaw04_few.f l0_0 l0_1 a0_2 l0_3).bind fun t558 => (if t558 = true then ((ferryref04_Fit.f k l0_0 l0_1 a0_2 l0_3).bind fun t559 => (ferrylaw04_GuestElse.j0 k a1 a2 a3 a4 (!t559) l0_0 l0_1 a0_2 l0_3)) else (ferrylaw04_GuestElse.j0 k a1 a2 a3 a4 true l0_0 l0_1 a0_2 l0_3))
def ferrylaw04_GuestElse.T10 : Bool × List (List Nat × List Nat) := (true, [([], []), ([0], [0]), ([], []), ([2, 1], [2]), ([1, 3, 3], [1, 3]), ([4, 4], [4]), ([5], [5]), ([6, 5], [5, 6]), ([5], [5]), ([8, 5], [5, 8]), ([7, 9, 5], [5, 7, 9]), ([5, 10], [5, 10]), ([11, 5], [11]), ([12, 12], [12]), ([12, 13], [12, 13]), ([14, 13, 0, 1, 2, 3, 4, 5, 6, 7, 8, 9, 10, 11, 12, 13, 14], [14])])
def ferrylaw04_GuestElse.B10 : List Nat := [0, 1, 0, 7, 15, 31, 63, 127, 63, 319, 1023, 2047, 4095, 8191, 16383, 32767]
theorem ferrylaw04_GuestElse.tab10 : rtab .any (opsOf Try.f6 10) = ferrylaw04_GuestElse.T10 := by kernel_rfl
theorem ferrylaw04_GuestElse.bits10 : waitsOk ferrylaw04_GuestElse.T10.2 ferrylaw04_GuestElse.B10 = true := by kernel_rfl
set_option maxHeartbeats 8000000 in
set_option maxRecDepth 100000 in
theorem ferrylaw04_GuestElse.calls (k : Nat) (A0_0 : Option Addr) (c0_0 : Nat) (l0_0 : List (S55)) (A0_1 : Option Addr) (c0_1 : Nat) (l0_1 : List (S60)) (a0_2 : Int) (A0_3 : Option Addr) (c0_3 : Nat) (l0_3 : List (S39)) (a1 : Int) (a2 : Int) (a3 : Int) (a4 : Int) (r : Bool) (w : World) (hr0_0 : Kd.C k55 w A0_0 l0_0.length l0_0) (hc0_0 : l0_0.length ≤ c0_0) (hr0_1 : Kd.C k60 w A0_1 l0_1.length l0_1) (hc0_1 : l0_1.length ≤ c0_1) (hr0_3 : Kd.C k39 w A0_3 l0_3.length l0_3) (hc0_3 : l0_3.length ≤ c0_3) (h : ferrylaw04_GuestElse.f k l0_0 l0_1 a0_2 l0_3 a1 a2 a3 a4 = some r) :
    Calls Try.prog 6 #[.agg #[.slice A0_0 l0_0.length c0_0, .slice A0_1 l0_1.length c0_1, .int .u64 a0_2, .slice A0_3 l0_3.length c0_3], .int .u32 a1, .int .u32 a2, .int .i64 a3, .int .u8 a4] w fun e w' => e = .returned (.bool r) ∧ Below w.heap.size w w' := by
  have hu29 := Try.underlying29
  have HR0_0 := Aside0.mk hr0_0
  have HC0_0 := Aside0.mk hc0_0
  clear hr0_0 hc0_0
  have HR0_1 := Aside0.mk hr0_1
  have HC0_1 := Aside0.mk hc0_1
  clear hr0_1 hc0_1
  have HR0_3 := Aside0.mk hr0_3
  have HC0_3 := Aside0.mk hc0_3
  clear hr0_3 hc0_3
  have HB := Aside0.mk (Below.refl w.heap.size w)
  have H : ((ferrylaw04_few.f l0_0 l0_1 a0_2 l0_3).bind fun t558 => (if t558 = true then ((ferryref04_Fit.f k l0_0 l0_1 a0_2 l0_3).bind fun t559 => (ferrylaw04_GuestElse.j0 k a1 a2 a3 a4 (!t559) l0_0 l0_1 a0_2 l0_3)) else (ferrylaw04_GuestElse.j0 k a1 a2 a3 a4 true l0_0 l0_1 a0_2 l0_3))) = some r := h
  clear h
  have HC6 := Aside0.mk H
  clear H
  go_enter Try.func6, Try.ntmps6
  go_upto_region 1 with (first | ((with_reducible refine gate_dst (N := 5) rfl ?_); refine box_event ?hg (N := 5) ?hd (cs := #[.slice A0_0 l0_0.length c0_0, .slice A0_1 l0_1.length c0_1, .int .u64 a0_2, .slice A0_3 l0_3.length c0_3]) (t := 29) ?hr ?_; (case hd => rfl); (case hg => rfl); (case hr => first | (go_simp; done) | (go_simp; rfl)); intro gb557 hg w7 hbox hb; have n0_ := Aside0.mk (below_step beT_ hb); have n1_ := Aside0.mk (hbox); have n2_ := Aside0.mk ((by rw [hg]; exact (below_size beT_) : w.heap.size ≤ gb557)); have n3_ := Aside0.mk ((by rw [hg]; exact (below_size beT_) : w.heap.size ≤ gb557)); clear HB; have HB := n0_; have BK557 := n1_; have GW557 := n2_; have GE557 := n3_; clear n0_ n1_ n2_ n3_; clear hb hbox hg))
  (try simp only [Act.put, List.setIfInBounds_toArray, List.set_cons_zero, List.set_cons_succ])
  go_cut [19] (fun v19 wc => ∃ (kq : Nat) (x19_5 : Bool), v19 = .bool x19_5 ∧ Aside0 (ferrylaw04_GuestElse.j0 kq a1 a2 a3 a4 x19_5 l0_0 l0_1 a0_2 l0_3 = some r) ∧ Aside0 (kq ≤ k) ∧ Aside0 (wc.heap[gb557]? = some (.cells #[(.slice A0_0 l0_0.length c0_0), (.slice A0_1 l0_1.length c0_1), .int .u64 a0_2, (.slice A0_3 l0_3.length c0_3)] 29 (0, 0))) ∧ Aside0 (Below w.heap.size w wc))
  case first =>
    have H := HC6.out
    clear HC6
    replace H := Option.bind_eq_some_iff.mp H
    obtain ⟨t558, A80, H⟩ := H
    replace H : (if t558 = true then ((ferryref04_Fit.f k l0_0 l0_1 a0_2 l0_3).bind fun t559 => (ferrylaw04_GuestElse.j0 k a1 a2 a3 a4 (!t559) l0_0 l0_1 a0_2 l0_3)) else (ferrylaw04_GuestElse.j0 k a1 a2 a3 a4 true l0_0 l0_1 a0_2 l0_3)) = some r := H
    have A8 := Aside0.mk A80
    clear A80
    by_cases c9 : t558 = true
    · subst c9
      have H1 : ((ferryref04_Fit.f k l0_0 l0_1 a0_2 l0_3).bind fun t559 => (ferrylaw04_GuestElse.j0 k a1 a2 a3 a4 (!t559) l0_0 l0_1 a0_2 l0_3)) = some r := by rw [if_pos rfl] at H; exact H
      clear H
      have H := H1
      clear H1
      replace H := Option.bind_eq_some_iff.mp H
      obtain ⟨t559, A100, H⟩ := H
      replace H : (ferrylaw04_GuestElse.j0 k a1 a2 a3 a4 (!t559) l0_0 l0_1 a0_2 l0_3) = some r := H
      have A10 := Aside0.mk A100
      clear A100
      have H' := Aside0.mk H
      clear H
      have hcz11_0 : w7.cell? ⟨gb557, 0, none⟩ = some (.slice A0_0 l0_0.length c0_0) := (blk_cell BK557.out 0).trans rfl
      have hcz11_1 : w7.cell? ⟨gb557, 1, none⟩ = some (.slice A0_1 l0_1.length c0_1) := (blk_cell BK557.out 1).trans rfl
      have hcz11_2 : w7.cell? ⟨gb557, 2, none⟩ = some (.int .u64 a0_2) := (blk_cell BK557.out 2).trans rfl
      have hcz11_3 : w7.cell? ⟨gb557, 3, none⟩ = some (.slice A0_3 l0_3.length c0_3) := (blk_cell BK557.out 3).trans rfl
      have hfz11_0 := blk_frozen BK557.out 0
      have hfz11_1 := blk_frozen BK557.out 1
      have hfz11_2 := blk_frozen BK557.out 2
      have hfz11_3 := blk_frozen BK557.out 3
      go_wp2_with (first | ((with_reducible refine gate_callee (f := 8) rfl ?_); refine goesL_ (some 13) rfl rfl Try.func8 (by kernel_rfl) rfl #[.agg #[.slice A0_0 l0_0.length c0_0, .slice A0_1 l0_1.length c0_1, .int .u64 a0_2, .slice A0_3 l0_3.length c0_3]] rfl (by (try simp only [List.map_toArray, List.map_cons, List.map_nil]); first | done | rfl | (simp only [List.length_drop, List.length_take]; rfl)) ?_; (with_reducible refine (ferrylaw04_few.calls _ _ l0_0 _ _ l0_1 a0_2 _ _ l0_3 true _ ?side1 ?side2 ?side3 ?side4 ?side5 ?side6 A8.out).mono ?_); (case side1 => repeat (first | exact (Kd.C_below HR0_0.out HB.out) | (with_reducible refine Kd.C_alloc ?_ _) | (with_reducible refine Kd.C_drewN ?_ _) | (with_reducible refine Kd.C_drew ?_))); (case side2 => exact HC0_0.out); (case side3 => repeat (first | exact (Kd.C_below HR0_1.out HB.out) | (with_reducible refine Kd.C_alloc ?_ _) | (with_reducible refine Kd.C_drewN ?_ _) | (with_reducible refine Kd.C_drew ?_))); (case side4 => exact HC0_1.out); (case side5 => repeat (first | exact (Kd.C_below HR0_3.out HB.out) | (with_reducible refine Kd.C_alloc ?_ _) | (with_reducible refine Kd.C_drewN ?_ _) | (with_reducible refine Kd.C_drew ?_))); (case side6 => exact HC0_3.out); rintro e w12 ⟨rfl, hb⟩; refine ⟨_, rfl, ?_⟩; have n0_ := Aside0.mk (blk_below (g := gb557) (o := .cells #[.slice A0_0 l0_0.length c0_0, .slice A0_1 l0_1.length c0_1, .int .u64 a0_2, .slice A0_3 l0_3.length c0_3] 29 (0, 0)) (bT_ BK557.out) hb); have n1_ := Aside0.mk (below_step beT_ hb); clear BK557; clear HB; have BK557 := n0_; have HB := n1_; clear n0_ n1_; (try clear hb); (try clear hb2); (try clear hk); (try clear hi); have hcz13_0 : w12.cell? ⟨gb557, 0, none⟩ = some (.slice A0_0 l0_0.length c0_0) := (blk_cell BK557.out 0).trans rfl; have hcz13_1 : w12.cell? ⟨gb557, 1, none⟩ = some (.slice A0_1 l0_1.length c0_1) := (blk_cell BK557.out 1).trans rfl; have hcz13_2 : w12.cell? ⟨gb557, 2, none⟩ = some (.int .u64 a0_2) := (blk_cell BK557.out 2).trans rfl; have hcz13_3 : w12.cell? ⟨gb557, 3, none⟩ = some (.slice A0_3 l0_3.length c0_3) := (blk_cell BK557.out 3).trans rfl; have hfz13_0 := blk_frozen BK557.out 0; have hfz13_1 := blk_frozen BK557.out 1; have hfz13_2 := blk_frozen BK557.out 2; have hfz13_3 := blk_frozen BK557.out 3) | (go_at_call 9; (with_reducible refine (ferryref04_Fit.calls k _ _ l0_0 _ _ l0_1 a0_2 _ _ l0_3 t559 _ ?side1 ?side2 ?side3 ?side4 ?side5 ?side6 A10.out).mono ?_); (case side1 => repeat (first | exact (Kd.C_below HR0_0.out HB.out) | (with_reducible refine Kd.C_alloc ?_ _) | (with_reducible refine Kd.C_drewN ?_ _) | (with_reducible refine Kd.C_drew ?_))); (case side2 => exact HC0_0.out); (case side3 => repeat (first | exact (Kd.C_below HR0_1.out HB.out) | (with_reducible refine Kd.C_alloc ?_ _) | (with_reducible refine Kd.C_drewN ?_ _) | (with_reducible refine Kd.C_drew ?_))); (case side4 => exact HC0_1.out); (case side5 => repeat (first | exact (Kd.C_below HR0_3.out HB.out) | (with_reducible refine Kd.C_alloc ?_ _) | (with_reducible refine Kd.C_drewN ?_ _) | (with_reducible refine Kd.C_drew ?_))); (case side6 => exact HC0_3.out); rintro e w14 ⟨rfl, hb⟩; have n0_ := Aside0.mk (blk_below (g := gb557) (o := .cells #[.slice A0_0 l0_0.length c0_0, .slice A0_1 l0_1.length c0_1, .int .u64 a0_2, .slice A0_3 l0_3.length c0_3] 29 (0, 0)) (bT_ BK557.out) hb); have n1_ := Aside0.mk (below_step beT_ hb); clear BK557; clear HB; have BK557 := n0_; have HB := n1_; clear n0_ n1_; (try clear hb); (try clear hb2); (try clear hk); (try clear hi)))
      go_meet
      case rel => exact ⟨_, (!t559), (by first | rfl | (simp; done) | (simp [*]; done)), H', ⟨by first | omega | exact Nat.le_refl _⟩, ⟨by (with_reducible repeat (first | refine blk_drewN ?_ _ | refine blk_drew ?_ | refine blk_alloc ?_ _)); exact BK557.out⟩, ⟨by repeat (first | (with_reducible first | exact HB.out | apply below_alloc | apply pw_below_drewN | apply below_drew1 | refine below_set ?_ GE557.out) | exact HB.out)⟩⟩
    replace c9 := Bool.eq_false_iff.mpr c9
    subst c9
    have H1 : (ferrylaw04_GuestElse.j0 k a1 a2 a3 a4 true l0_0 l0_1 a0_2 l0_3) = some r := by rw [if_neg (show ¬ (false = true) by decide)] at H; exact H
    clear H
    have H := H1
    clear H1
    have H' := Aside0.mk H
    clear H
    have hcz15_0 : w7.cell? ⟨gb557, 0, none⟩ = some (.slice A0_0 l0_0.length c0_0) := (blk_cell BK557.out 0).trans rfl
    have hcz15_1 : w7.cell? ⟨gb557, 1, none⟩ = some (.slice A0_1 l0_1.length c0_1) := (blk_cell BK557.out 1).trans rfl
    have hcz15_2 : w7.cell? ⟨gb557, 2, none⟩ = some (.int .u64 a0_2) := (blk_cell BK557.out 2).trans rfl
    have hcz15_3 : w7.cell? ⟨gb557, 3, none⟩ = some (.slice A0_3 l0_3.length c0_3) := (blk_cell BK557.out 3).trans rfl
    have hfz15_0 := blk_frozen BK557.out 0
    have hfz15_1 := blk_frozen BK557.out 1
    have hfz15_2 := blk_frozen BK557.out 2
    have hfz15_3 := blk_frozen BK557.out 3
    go_wp2_with (first | ((with_reducible refine gate_callee (f := 8) rfl ?_); refine goesL_ (some 13) rfl rfl Try.func8 (by kernel_rfl) rfl #[.agg #[.slice A0_0 l0_0.length c0_0, .slice A0_1 l0_1.length c0_1, .int .u64 a0_2, .slice A0_3 l0_3.length c0_3]] rfl (by (try simp only [List.map_toArray, List.map_cons, List.map_nil]); first | done | rfl | (simp only [List.length_drop, List.length_take]; rfl)) ?_; (with_reducible refine (ferrylaw04_few.calls _ _ l0_0 _ _ l0_1 a0_2 _ _ l0_3 false _ ?side1 ?side2 ?side3 ?side4 ?side5 ?side6 A8.out).mono ?_); (case side1 => repeat (first | exact (Kd.C_below HR0_0.out HB.out) | (with_reducible refine Kd.C_alloc ?_ _) | (with_reducible refine Kd.C_drewN ?_ _) | (with_reducible refine Kd.C_drew ?_))); (case side2 => exact HC0_0.out); (case side3 => repeat (first | exact (Kd.C_below HR0_1.out HB.out) | (with_reducible refine Kd.C_alloc ?_ _) | (with_reducible refine Kd.C_drewN ?_ _) | (with_reducible refine Kd.C_drew ?_))); (case side4 => exact HC0_1.out); (case side5 => repeat (first | exact (Kd.C_below HR0_3.out HB.out) | (with_reducible refine Kd.C_alloc ?_ _) | (with_reducible refine Kd.C_drewN ?_ _) | (with_reducible refine Kd.C_drew ?_))); (case side6 => exact HC0_3.out); rintro e w16 ⟨rfl, hb⟩; refine ⟨_, rfl, ?_⟩; have n0_ := Aside0.mk (blk_below (g := gb557) (o := .cells #[.slice A0_0 l0_0.length c0_0, .slice A0_1 l0_1.length c0_1, .int .u64 a0_2, .slice A0_3 l0_3.length c0_3] 29 (0, 0)) (bT_ BK557.out) hb); have n1_ := Aside0.mk (below_step beT_ hb); clear BK557; clear HB; have BK557 := n0_; have HB := n1_; clear n0_ n1_; (try clear hb); (try clear hb2); (try clear hk); (try clear hi)))
    go_meet
    case rel => exact ⟨_, (true), (by first | rfl | (simp; done) | (simp [*]; done)), H', ⟨by first | omega | exact Nat.le_refl _⟩, ⟨by (with_reducible repeat (first | refine blk_drewN ?_ _ | refine blk_drew ?_ | refine blk_alloc ?_ _)); exact BK557.out⟩, ⟨by repeat (first | (with_reducible first | exact HB.out | apply below_alloc | apply pw_below_drewN | apply below_drew1 | refine below_set ?_ GE557.out) | exact HB.out)⟩⟩
  case rest =>
    clear HC6
    try clear p2
    try clear c6
    try clear c8
    try clear c9
    try clear hcz11_0
    try clear hcz11_1
    try clear hcz11_2
    try clear hcz11_3
    try clear hcz13_0
    try clear hcz13_1
    try clear hcz13_2
    try clear hcz13_3
    try clear hcz15_0
    try clear hcz15_1
    try clear hcz15_2
    try clear hcz15_3
    try clear hfz11_0
    try clear hfz11_1
    try clear hfz11_2
    try clear hfz11_3
    try clear hfz13_0
    try clear hfz13_1
    try clear hfz13_2
    try clear hfz13_3
    try clear hfz15_0
    try clear hfz15_1
    try clear hfz15_2
    try clear hfz15_3
    obtain ⟨kq, x19_5, rfl, HA, HJ5, BK557, HB⟩ := hcut
    cases kq with
    | zero => exact absurd HA.out (by simp [ferrylaw04_GuestElse.j0])
    | succ kj5 =>
      have H := HA.out
      clear HA
      simp only [ferrylaw04_GuestElse.j0] at H
      by_cases c17 : x19_5 = true
      · subst c17
        have H1 : ((ferrylaw04_awake.f kj5).bind fun t560 => (some t560)) = some r := by rw [if_pos rfl] at H; exact H
        clear H
        have H := H1
        clear H1
        replace H := Option.bind_eq_some_iff.mp H
        obtain ⟨t560, A180, H⟩ := H
        replace H : (some t560) = some r := H
        have A18 := Aside0.mk A180
        clear A180
        obtain rfl := Option.some.inj H
        go_wp2_with (first | ((with_reducible refine gate_callee (f := 10) rfl ?_); refine goesL_ (some 20) rfl rfl Try.func10 (by kernel_rfl) rfl #[] rfl (by (try simp only [List.map_toArray, List.map_cons, List.map_nil]); first | done | rfl | (simp only [List.length_drop, List.length_take]; rfl)) ?_; (with_reducible refine (ferrylaw04_awake.calls kj5  t560 _ A18.out).mono ?_); rintro e w19 ⟨rfl, hb⟩; refine ⟨_, rfl, ?_⟩; have n0_ := Aside0.mk (blk_below (g := gb557) (o := .cells #[.slice A0_0 l0_0.length c0_0, .slice A0_1 l0_1.length c0_1, .int .u64 a0_2, .slice A0_3 l0_3.length c0_3] 29 (0, 0)) (bT_ BK557.out) hb); have n1_ := Aside0.mk (below_step beT_ hb); clear BK557; clear HB; have BK557 := n0_; have HB := n1_; clear n0_ n1_; (try clear hb); (try clear hb2); (try clear hk); (try clear hi)))
        go_ret
        exact ⟨by first | rfl | (simp [errW_none, errW_some] <;> rfl) | (simp [*, errW_none, errW_some] <;> rfl), by repeat (first | (with_reducible first | exact HB.out | apply below_alloc | apply pw_below_drewN | apply below_drew1 | refine below_set ?_ GE557.out) | exact HB.out)⟩
      replace c17 := Bool.eq_false_iff.mpr c17
      subst c17
      have H1 : (if (Int.tmod a4 3) = 0 then ((guest_Map.f l0_0 l0_1 a0_2 l0_3 a1 a2 a3).bind fun bt562 => (ferrylaw04_GuestElse.j1 kj5 l0_0 l0_1 a0_2 l0_3 bt562.1 bt562.2.1 bt562.2.2.1 bt562.2.2.2.1)) else (if (Int.tmod a4 3) = 1 then ((guest_Unmap.f l0_0 l0_1 a0_2 l0_3 a1 a2).bind fun bt573 => (ferrylaw04_GuestElse.j1 kj5 l0_0 l0_1 a0_2 l0_3 bt573.1 bt573.2.1 bt573.2.2.1 bt573.2.2.2.1)) else ((guest_Protect.f kj5 l0_0 l0_1 a0_2 l0_3 a1 a2 a3).bind fun bt584 => (ferrylaw04_GuestElse.j1 kj5 l0_0 l0_1 a0_2 l0_3 bt584.1 bt584.2.1 bt584.2.2.1 bt584.2.2.2.1)))) = some r := by rw [if_neg (show ¬ (false = true) by decide)] at H; exact H
      clear H
      have H := H1
      clear H1
      have HC20 := Aside0.mk H
      clear H
      go_upto_block 0 with (first | ((with_reducible refine gate_dst (N := 11) rfl ?_); refine box_event ?hg (N := 11) ?hd (cs := #[.slice none 0 0, .slice none 0 0, .int .u64 0, .slice none 0 0]) (t := 29) ?hr ?_; (case hd => rfl); (case hg => rfl); (case hr => first | (go_simp; done) | (go_simp; rfl)); intro gb561 hg w21 hbox hb; have n0_ := Aside0.mk (blk_below (g := gb557) (o := .cells #[.slice A0_0 l0_0.length c0_0, .slice A0_1 l0_1.length c0_1, .int .u64 a0_2, .slice A0_3 l0_3.length c0_3] 29 (0, 0)) (bT_ BK557.out) hb); have n1_ := Aside0.mk (below_step beT_ hb); have n2_ := Aside0.mk (hbox); have n3_ := Aside0.mk ((by rw [hg]; exact (below_size beT_) : w.heap.size ≤ gb561)); have n4_ := Aside0.mk ((by rw [hg]; exact (below_size beT_) : w.heap.size ≤ gb561)); have n5_ := Aside0.mk ((by rw [hg]; exact Nat.ne_of_lt (blk_lt (g := gb557) (o := .cells #[.slice A0_0 l0_0.length c0_0, .slice A0_1 l0_1.length c0_1, .int .u64 a0_2, .slice A0_3 l0_3.length c0_3] 29 (0, 0)) (bT_ BK557.out)) : gb557 ≠ gb561)); have n6_ := Aside0.mk ((by rw [hg]; exact Nat.ne_of_gt (blk_lt (g := gb557) (o := .cells #[.slice A0_0 l0_0.length c0_0, .slice A0_1 l0_1.length c0_1, .int .u64 a0_2, .slice A0_3 l0_3.length c0_3] 29 (0, 0)) (bT_ BK557.out)) : gb561 ≠ gb557)); clear BK557; clear HB; have BK557 := n0_; have HB := n1_; have BK561 := n2_; have GW561 := n3_; have GE561 := n4_; have NB557_561 := n5_; have NB561_557 := n6_; clear n0_ n1_ n2_ n3_ n4_ n5_ n6_; clear hb hbox hg))
      (try simp only [Act.put, List.setIfInBounds_toArray, List.set_cons_zero, List.set_cons_succ])
      go_cut [] (fun wc => ∃ (kq : Nat) (x562000_19 : List (S55)) (x562001_19 : List (S60)) (x562002_19 : Int) (x562003_19 : List (S39)) (u562000 : Value) (u562001 : Value) (u562003 : Value), Aside0 (ferrylaw04_GuestElse.j1 kq l0_0 l0_1 a0_2 l0_3 x562000_19 x562001_19 x562002_19 x562003_19 = some r) ∧ Aside0 (kq ≤ kj5) ∧ Aside0 (Kd.V k55 55 wc w.heap.size (fun k_ => k_ ≠ gb557 ∧ k_ ≠ gb561) u562000 x562000_19) ∧ Aside0 (Kd.V k60 60 wc w.heap.size (fun k_ => k_ ≠ gb557 ∧ k_ ≠ gb561) u562001 x562001_19) ∧ Aside0 (Kd.V k39 39 wc w.heap.size (fun k_ => k_ ≠ gb557 ∧ k_ ≠ gb561) u562003 x562003_19) ∧ Aside0 (wc.heap[gb557]? = some (.cells #[(.slice A0_0 l0_0.length c0_0), (.slice A0_1 l0_1.length c0_1), .int .u64 a0_2, (.slice A0_3 l0_3.length c0_3)] 29 (0, 0))) ∧ Aside0 (wc.heap[gb561]? = some (.cells #[u562000, u562001, .int .u64 x562002_19, u562003] 29 (0, 0))) ∧ Aside0 (Below w.heap.size w wc))
      case first =>
        have H := HC20.out
        clear HC20
        by_cases c22 : (Int.tmod a4 3) = 0
        · rw [if_pos c22] at H
          have c22b0 : ((Int.tmod a4 3) == 0) = true := beq_iff_eq.mpr c22
          have c22b1 : ((Int.tmod a4 3) != 0) = false := bne_eq_false_iff_eq.mpr c22
          clear c22
          (first | rw [c22b0] | (simp only [i64_w, i32_w]; rw [c22b0]) | skip)
          replace H := Option.bind_eq_some_iff.mp H
          obtain ⟨⟨t562, t565, t568, t569, t572⟩, A230, H⟩ := H
          replace H : (ferrylaw04_GuestElse.j1 kj5 l0_0 l0_1 a0_2 l0_3 t562 t565 t568 t569) = some r := H
          have A23 := Aside0.mk A230
          clear A230
          have H' := Aside0.mk H
          clear H
          have hnb24 := NB557_561.out
          have hnc24 := NB561_557.out
          have hcz25_0 : w21.cell? ⟨gb557, 0, none⟩ = some (.slice A0_0 l0_0.length c0_0) := (blk_cell BK557.out 0).trans rfl
          have hcz25_1 : w21.cell? ⟨gb557, 1, none⟩ = some (.slice A0_1 l0_1.length c0_1) := (blk_cell BK557.out 1).trans rfl
          have hcz25_2 : w21.cell? ⟨gb557, 2, none⟩ = some (.int .u64 a0_2) := (blk_cell BK557.out 2).trans rfl
          have hcz25_3 : w21.cell? ⟨gb557, 3, none⟩ = some (.slice A0_3 l0_3.length c0_3) := (blk_cell BK557.out 3).trans rfl
          have hfz25_0 := blk_frozen BK557.out 0
          have hfz25_1 := blk_frozen BK557.out 1
          have hfz25_2 := blk_frozen BK557.out 2
          have hfz25_3 := blk_frozen BK557.out 3
          go_wp2_with (first | ((with_reducible refine gate_callee (f := 12) rfl ?_); refine goesL_ (some 38) rfl rfl Try.func12 (by kernel_rfl) rfl #[.agg #[.slice A0_0 l0_0.length c0_0, .slice A0_1 l0_1.length c0_1, .int .u64 a0_2, .slice A0_3 l0_3.length c0_3], .int .u32 a1, .int .u32 a2, .int .i64 a3] rfl (by (try simp only [List.map_toArray, List.map_cons, List.map_nil]); first | done | rfl | (simp only [List.length_drop, List.length_take]; rfl)) ?_; (with_reducible refine (guest_Map.calls (fun k_ => k_ < w.heap.size) _ _ l0_0 (fun k_ => k_ < w.heap.size) _ _ l0_1 a0_2 (fun k_ => k_ < w.heap.size) _ _ l0_3 a1 a2 a3 t562 t565 t568 t569 t572 _ ?side1 ?side2 ?side3 A23.out).mono ?_); (case side1 => exact Kd.V_mk HC0_0.out (Kd.F_below (Kd.C_F k55_heap HR0_0.out) beT_)); (case side2 => exact Kd.V_mk HC0_1.out (Kd.F_below (Kd.C_F k60_heap HR0_1.out) beT_)); (case side3 => exact Kd.V_mk HC0_3.out (Kd.F_below (Kd.C_F k39_heap HR0_3.out) beT_)); rintro e w26 ⟨v563, v566, v570, rfl, ho0, ho1, ho2, hb⟩; refine ⟨_, rfl, ?_⟩; have n0_ := Aside0.mk (Kd.V_lower (Kd.V_mono (ok' := fun k_ => k_ ≠ gb557 ∧ k_ ≠ gb561) ho0 (fun k_ hk_ => ⟨Or.elim hk_ (fun hs_ => Or.elim hs_ (fun hs_ => fun e_ => Nat.not_le.2 hs_ (by rw [e_]; exact GW557.out)) (fun hs_ => Or.elim hs_ (fun hs_ => fun e_ => Nat.not_le.2 hs_ (by rw [e_]; exact GW557.out)) (fun hs_ => fun e_ => Nat.not_le.2 hs_ (by rw [e_]; exact GW557.out)))) (fun hn_ => (Kd.freshB (g := gb557) (o := .cells #[.slice A0_0 l0_0.length c0_0, .slice A0_1 l0_1.length c0_1, .int .u64 a0_2, .slice A0_3 l0_3.length c0_3] 29 (0, 0)) (bT_ BK557.out) k_ hn_)), Or.elim hk_ (fun hs_ => Or.elim hs_ (fun hs_ => fun e_ => Nat.not_le.2 hs_ (by rw [e_]; exact GW561.out)) (fun hs_ => Or.elim hs_ (fun hs_ => fun e_ => Nat.not_le.2 hs_ (by rw [e_]; exact GW561.out)) (fun hs_ => fun e_ => Nat.not_le.2 hs_ (by rw [e_]; exact GW561.out)))) (fun hn_ => (Kd.freshB (g := gb561) (o := .cells #[.slice none 0 0, .slice none 0 0, .int .u64 0, .slice none 0 0] 29 (0, 0)) (bT_ BK561.out) k_ hn_))⟩)) (below_size beT_)); have n1_ := Aside0.mk (Kd.V_lower (Kd.V_mono (ok' := fun k_ => k_ ≠ gb557 ∧ k_ ≠ gb561) ho1 (fun k_ hk_ => ⟨Or.elim hk_ (fun hs_ => Or.elim hs_ (fun hs_ => fun e_ => Nat.not_le.2 hs_ (by rw [e_]; exact GW557.out)) (fun hs_ => Or.elim hs_ (fun hs_ => fun e_ => Nat.not_le.2 hs_ (by rw [e_]; exact GW557.out)) (fun hs_ => fun e_ => Nat.not_le.2 hs_ (by rw [e_]; exact GW557.out)))) (fun hn_ => (Kd.freshB (g := gb557) (o := .cells #[.slice A0_0 l0_0.length c0_0, .slice A0_1 l0_1.length c0_1, .int .u64 a0_2, .slice A0_3 l0_3.length c0_3] 29 (0, 0)) (bT_ BK557.out) k_ hn_)), Or.elim hk_ (fun hs_ => Or.elim hs_ (fun hs_ => fun e_ => Nat.not_le.2 hs_ (by rw [e_]; exact GW561.out)) (fun hs_ => Or.elim hs_ (fun hs_ => fun e_ => Nat.not_le.2 hs_ (by rw [e_]; exact GW561.out)) (fun hs_ => fun e_ => Nat.not_le.2 hs_ (by rw [e_]; exact GW561.out)))) (fun hn_ => (Kd.freshB (g := gb561) (o := .cells #[.slice none 0 0, .slice none 0 0, .int .u64 0, .slice none 0 0] 29 (0, 0)) (bT_ BK561.out) k_ hn_))⟩)) (below_size beT_)); have n2_ := Aside0.mk (Kd.V_lower (Kd.V_mono (ok' := fun k_ => k_ ≠ gb557 ∧ k_ ≠ gb561) ho2 (fun k_ hk_ => ⟨Or.elim hk_ (fun hs_ => Or.elim hs_ (fun hs_ => fun e_ => Nat.not_le.2 hs_ (by rw [e_]; exact GW557.out)) (fun hs_ => Or.elim hs_ (fun hs_ => fun e_ => Nat.not_le.2 hs_ (by rw [e_]; exact GW557.out)) (fun hs_ => fun e_ => Nat.not_le.2 hs_ (by rw [e_]; exact GW557.out)))) (fun hn_ => (Kd.freshB (g := gb557) (o := .cells #[.slice A0_0 l0_0.length c0_0, .slice A0_1 l0_1.length c0_1, .int .u64 a0_2, .slice A0_3 l0_3.length c0_3] 29 (0, 0)) (bT_ BK557.out) k_ hn_)), Or.elim hk_ (fun hs_ => Or.elim hs_ (fun hs_ => fun e_ => Nat.not_le.2 hs_ (by rw [e_]; exact GW561.out)) (fun hs_ => Or.elim hs_ (fun hs_ => fun e_ => Nat.not_le.2 hs_ (by rw [e_]; exact GW561.out)) (fun hs_ => fun e_ => Nat.not_le.2 hs_ (by rw [e_]; exact GW561.out)))) (fun hn_ => (Kd.freshB (g := gb561) (o := .cells #[.slice none 0 0, .slice none 0 0, .int .u64 0, .slice none 0 0] 29 (0, 0)) (bT_ BK561.out) k_ hn_))⟩)) (below_size beT_)); have n3_ := Aside0.mk (blk_below (g := gb557) (o := .cells #[.slice A0_0 l0_0.length c0_0, .slice A0_1 l0_1.length c0_1, .int .u64 a0_2, .slice A0_3 l0_3.length c0_3] 29 (0, 0)) (bT_ BK557.out) hb); have n4_ := Aside0.mk (blk_below (g := gb561) (o := .cells #[.slice none 0 0, .slice none 0 0, .int .u64 0, .slice none 0 0] 29 (0, 0)) (bT_ BK561.out) hb); have n5_ := Aside0.mk (below_step beT_ hb); clear BK557; clear BK561; clear HB; have HO564 := n0_; have HO567 := n1_; have HO571 := n2_; have BK557 := n3_; have BK561 := n4_; have HB := n5_; clear n0_ n1_ n2_ n3_ n4_ n5_; (try clear hb); (try clear hb2); (try clear hk); (try clear hi); (try clear ho0); (try clear ho1); (try clear ho2); obtain ⟨Ao27, co27, eo27⟩ := Kd.V_slice HO564.out; subst eo27; have hcz28_0 : w26.cell? ⟨gb561, 0, none⟩ = some (.slice none 0 0) := (blk_cell BK561.out 0).trans rfl; have hcz28_1 : w26.cell? ⟨gb561, 1, none⟩ = some (.slice none 0 0) := (blk_cell BK561.out 1).trans rfl; have hcz28_2 : w26.cell? ⟨gb561, 2, none⟩ = some (.int .u64 0) := (blk_cell BK561.out 2).trans rfl; have hcz28_3 : w26.cell? ⟨gb561, 3, none⟩ = some (.slice none 0 0) := (blk_cell BK561.out 3).trans rfl; have hfz28_0 := blk_frozen BK561.out 0; have hfz28_1 := blk_frozen BK561.out 1; have hfz28_2 := blk_frozen BK561.out 2; have hfz28_3 := blk_frozen BK561.out 3; obtain ⟨Ao29, co29, eo29⟩ := Kd.V_slice HO567.out; subst eo29; obtain ⟨Ao30, co30, eo30⟩ := Kd.V_slice HO571.out; subst eo30))
          go_meet
          case rel => exact ⟨_, (t562), (t565), (t568), (t569), (.slice Ao27 t562.length co27), (.slice Ao29 t565.length co29), (.slice Ao30 t569.length co30), H', ⟨by have := HJ5.out; first | omega | exact Nat.le_refl _⟩, ⟨by (with_reducible repeat (first | apply Kd.V_alloc | apply Kd.V_drewN | apply Kd.V_drew)); exact Kd.V_mono (Kd.V_far (p := ⟨gb561, 3, none⟩) (Kd.V_far (p := ⟨gb561, 2, none⟩) (Kd.V_far (p := ⟨gb561, 1, none⟩) (Kd.V_far (p := ⟨gb561, 0, none⟩) (Kd.V_mono HO564.out (fun k_ hk => (⟨hk, by first | exact hk.2 | exact hk.2.1 | exact hk.2.2⟩ : _ ∧ k_ ≠ gb561))) (fun _ hk => hk.2) (.slice Ao27 t562.length co27)) (fun _ hk => hk.2) (.slice Ao29 t565.length co29)) (fun _ hk => hk.2) (.int .u64 t568)) (fun _ hk => hk.2) (.slice Ao30 t569.length co30)) (fun _ hk => ⟨hk.1.1, hk.1.2⟩)⟩, ⟨by (with_reducible repeat (first | apply Kd.V_alloc | apply Kd.V_drewN | apply Kd.V_drew)); exact Kd.V_mono (Kd.V_far (p := ⟨gb561, 3, none⟩) (Kd.V_far (p := ⟨gb561, 2, none⟩) (Kd.V_far (p := ⟨gb561, 1, none⟩) (Kd.V_far (p := ⟨gb561, 0, none⟩) (Kd.V_mono HO567.out (fun k_ hk => (⟨hk, by first | exact hk.2 | exact hk.2.1 | exact hk.2.2⟩ : _ ∧ k_ ≠ gb561))) (fun _ hk => hk.2) (.slice Ao27 t562.length co27)) (fun _ hk => hk.2) (.slice Ao29 t565.length co29)) (fun _ hk => hk.2) (.int .u64 t568)) (fun _ hk => hk.2) (.slice Ao30 t569.length co30)) (fun _ hk => ⟨hk.1.1, hk.1.2⟩)⟩, ⟨by (with_reducible repeat (first | apply Kd.V_alloc | apply Kd.V_drewN | apply Kd.V_drew)); exact Kd.V_mono (Kd.V_far (p := ⟨gb561, 3, none⟩) (Kd.V_far (p := ⟨gb561, 2, none⟩) (Kd.V_far (p := ⟨gb561, 1, none⟩) (Kd.V_far (p := ⟨gb561, 0, none⟩) (Kd.V_mono HO571.out (fun k_ hk => (⟨hk, by first | exact hk.2 | exact hk.2.1 | exact hk.2.2⟩ : _ ∧ k_ ≠ gb561))) (fun _ hk => hk.2) (.slice Ao27 t562.length co27)) (fun _ hk => hk.2) (.slice Ao29 t565.length co29)) (fun _ hk => hk.2) (.int .u64 t568)) (fun _ hk => hk.2) (.slice Ao30 t569.length co30)) (fun _ hk => ⟨hk.1.1, hk.1.2⟩)⟩, ⟨by (with_reducible repeat (first | refine blk_drewN ?_ _ | refine blk_drew ?_ | refine blk_alloc ?_ _)); refine blk_far ?_ NB557_561.out _; (with_reducible repeat (first | refine blk_drewN ?_ _ | refine blk_drew ?_ | refine blk_alloc ?_ _)); refine blk_far ?_ NB557_561.out _; (with_reducible repeat (first | refine blk_drewN ?_ _ | refine blk_drew ?_ | refine blk_alloc ?_ _)); refine blk_far ?_ NB557_561.out _; (with_reducible repeat (first | refine blk_drewN ?_ _ | refine blk_drew ?_ | refine blk_alloc ?_ _)); refine blk_far ?_ NB557_561.out _; (with_reducible repeat (first | refine blk_drewN ?_ _ | refine blk_drew ?_ | refine blk_alloc ?_ _)); exact BK557.out⟩, ⟨by (with_reducible repeat (first | refine blk_drewN ?_ _ | refine blk_drew ?_ | refine blk_alloc ?_ _)); refine blk_put (cs := #[.slice Ao27 t562.length co27, .slice Ao29 t565.length co29, .int .u64 t568, .slice none 0 0]) ?_ 3 _ rfl; (with_reducible repeat (first | refine blk_drewN ?_ _ | refine blk_drew ?_ | refine blk_alloc ?_ _)); refine blk_put (cs := #[.slice Ao27 t562.length co27, .slice Ao29 t565.length co29, .int .u64 0, .slice none 0 0]) ?_ 2 _ rfl; (with_reducible repeat (first | refine blk_drewN ?_ _ | refine blk_drew ?_ | refine blk_alloc ?_ _)); refine blk_put (cs := #[.slice Ao27 t562.length co27, .slice none 0 0, .int .u64 0, .slice none 0 0]) ?_ 1 _ rfl; (with_reducible repeat (first | refine blk_drewN ?_ _ | refine blk_drew ?_ | refine blk_alloc ?_ _)); refine blk_put (cs := #[.slice none 0 0, .slice none 0 0, .int .u64 0, .slice none 0 0]) ?_ 0 _ rfl; (with_reducible repeat (first | refine blk_drewN ?_ _ | refine blk_drew ?_ | refine blk_alloc ?_ _)); exact BK561.out⟩, ⟨by repeat (first | (with_reducible first | exact HB.out | apply below_alloc | apply pw_below_drewN | apply below_drew1 | refine below_set ?_ GE557.out | refine below_set ?_ GE561.out) | exact HB.out)⟩⟩
        rw [if_neg c22] at H
        have c22b0 : ((Int.tmod a4 3) == 0) = false := beq_eq_false_iff_ne.mpr c22
        have c22b1 : ((Int.tmod a4 3) != 0) = true := bne_iff_ne.mpr c22
        (first | rw [c22b0] | (simp only [i64_w, i32_w]; rw [c22b0]) | skip)
        by_cases c31 : (Int.tmod a4 3) = 1
        · rw [if_pos c31] at H
          have c31b0 : ((Int.tmod a4 3) == 1) = true := beq_iff_eq.mpr c31
          have c31b1 : ((Int.tmod a4 3) != 1) = false := bne_eq_false_iff_eq.mpr c31
          clear c31
          replace H := Option.bind_eq_some_iff.mp H
          obtain ⟨⟨t573, t576, t579, t580, t583⟩, A320, H⟩ := H
          replace H : (ferrylaw04_GuestElse.j1 kj5 l0_0 l0_1 a0_2 l0_3 t573 t576 t579 t580) = some r := H
          have A32 := Aside0.mk A320
          clear A320
          have H' := Aside0.mk H
          clear H
          have hnb33 := NB557_561.out
          have hnc33 := NB561_557.out
          have hcz34_0 : w21.cell? ⟨gb557, 0, none⟩ = some (.slice A0_0 l0_0.length c0_0) := (blk_cell BK557.out 0).trans rfl
          have hcz34_1 : w21.cell? ⟨gb557, 1, none⟩ = some (.slice A0_1 l0_1.length c0_1) := (blk_cell BK557.out 1).trans rfl
          have hcz34_2 : w21.cell? ⟨gb557, 2, none⟩ = some (.int .u64 a0_2) := (blk_cell BK557.out 2).trans rfl
          have hcz34_3 : w21.cell? ⟨gb557, 3, none⟩ = some (.slice A0_3 l0_3.length c0_3) := (blk_cell BK557.out 3).trans rfl
          have hfz34_0 := blk_frozen BK557.out 0
          have hfz34_1 := blk_frozen BK557.out 1
          have hfz34_2 := blk_frozen BK557.out 2
          have hfz34_3 := blk_frozen BK557.out 3
          go_wp2_with (first | ((with_reducible refine gate_callee (f := 11) rfl ?_); refine goesL_ (some 47) rfl rfl Try.func11 (by kernel_rfl) rfl #[.agg #[.slice A0_0 l0_0.length c0_0, .slice A0_1 l0_1.length c0_1, .int .u64 a0_2, .slice A0_3 l0_3.length c0_3], .int .u32 a1, .int .u32 a2] rfl (by (try simp only [List.map_toArray, List.map_cons, List.map_nil]); first | done | rfl | (simp only [List.length_drop, List.length_take]; rfl)) ?_; (with_reducible refine (guest_Unmap.calls (fun k_ => k_ < w.heap.size) _ _ l0_0 (fun k_ => k_ < w.heap.size) _ _ l0_1 a0_2 (fun k_ => k_ < w.heap.size) _ _ l0_3 a1 a2 t573 t576 t579 t580 t583 _ ?side1 ?side2 ?side3 A32.out).mono ?_); (case side1 => exact Kd.V_mk HC0_0.out (Kd.F_below (Kd.C_F k55_heap HR0_0.out) beT_)); (case side2 => exact Kd.V_mk HC0_1.out (Kd.F_below (Kd.C_F k60_heap HR0_1.out) beT_)); (case side3 => exact Kd.V_mk HC0_3.out (Kd.F_below (Kd.C_F k39_heap HR0_3.out) beT_)); rintro e w35 ⟨v574, v577, v581, rfl, ho0, ho1, ho2, hb⟩; refine ⟨_, rfl, ?_⟩; have n0_ := Aside0.mk (Kd.V_lower (Kd.V_mono (ok' := fun k_ => k_ ≠ gb557 ∧ k_ ≠ gb561) ho0 (fun k_ hk_ => ⟨Or.elim hk_ (fun hs_ => Or.elim hs_ (fun hs_ => fun e_ => Nat.not_le.2 hs_ (by rw [e_]; exact GW557.out)) (fun hs_ => Or.elim hs_ (fun hs_ => fun e_ => Nat.not_le.2 hs_ (by rw [e_]; exact GW557.out)) (fun hs_ => fun e_ => Nat.not_le.2 hs_ (by rw [e_]; exact GW557.out)))) (fun hn_ => (Kd.freshB (g := gb557) (o := .cells #[.slice A0_0 l0_0.length c0_0, .slice A0_1 l0_1.length c0_1, .int .u64 a0_2, .slice A0_3 l0_3.length c0_3] 29 (0, 0)) (bT_ BK557.out) k_ hn_)), Or.elim hk_ (fun hs_ => Or.elim hs_ (fun hs_ => fun e_ => Nat.not_le.2 hs_ (by rw [e_]; exact GW561.out)) (fun hs_ => Or.elim hs_ (fun hs_ => fun e_ => Nat.not_le.2 hs_ (by rw [e_]; exact GW561.out)) (fun hs_ => fun e_ => Nat.not_le.2 hs_ (by rw [e_]; exact GW561.out)))) (fun hn_ => (Kd.freshB (g := gb561) (o := .cells #[.slice none 0 0, .slice none 0 0, .int .u64 0, .slice none 0 0] 29 (0, 0)) (bT_ BK561.out) k_ hn_))⟩)) (below_size beT_)); have n1_ := Aside0.mk (Kd.V_lower (Kd.V_mono (ok' := fun k_ => k_ ≠ gb557 ∧ k_ ≠ gb561) ho1 (fun k_ hk_ => ⟨Or.elim hk_ (fun hs_ => Or.elim hs_ (fun hs_ => fun e_ => Nat.not_le.2 hs_ (by rw [e_]; exact GW557.out)) (fun hs_ => Or.elim hs_ (fun hs_ => fun e_ => Nat.not_le.2 hs_ (by rw [e_]; exact GW557.out)) (fun hs_ => fun e_ => Nat.not_le.2 hs_ (by rw [e_]; exact GW557.out)))) (fun hn_ => (Kd.freshB (g := gb557) (o := .cells #[.slice A0_0 l0_0.length c0_0, .slice A0_1 l0_1.length c0_1, .int .u64 a0_2, .slice A0_3 l0_3.length c0_3] 29 (0, 0)) (bT_ BK557.out) k_ hn_)), Or.elim hk_ (fun hs_ => Or.elim hs_ (fun hs_ => fun e_ => Nat.not_le.2 hs_ (by rw [e_]; exact GW561.out)) (fun hs_ => Or.elim hs_ (fun hs_ => fun e_ => Nat.not_le.2 hs_ (by rw [e_]; exact GW561.out)) (fun hs_ => fun e_ => Nat.not_le.2 hs_ (by rw [e_]; exact GW561.out)))) (fun hn_ => (Kd.freshB (g := gb561) (o := .cells #[.slice none 0 0, .slice none 0 0, .int .u64 0, .slice none 0 0] 29 (0, 0)) (bT_ BK561.out) k_ hn_))⟩)) (below_size beT_)); have n2_ := Aside0.mk (Kd.V_lower (Kd.V_mono (ok' := fun k_ => k_ ≠ gb557 ∧ k_ ≠ gb561) ho2 (fun k_ hk_ => ⟨Or.elim hk_ (fun hs_ => Or.elim hs_ (fun hs_ => fun e_ => Nat.not_le.2 hs_ (by rw [e_]; exact GW557.out)) (fun hs_ => Or.elim hs_ (fun hs_ => fun e_ => Nat.not_le.2 hs_ (by rw [e_]; exact GW557.out)) (fun hs_ => fun e_ => Nat.not_le.2 hs_ (by rw [e_]; exact GW557.out)))) (fun hn_ => (Kd.freshB (g := gb557) (o := .cells #[.slice A0_0 l0_0.length c0_0, .slice A0_1 l0_1.length c0_1, .int .u64 a0_2, .slice A0_3 l0_3.length c0_3] 29 (0, 0)) (bT_ BK557.out) k_ hn_)), Or.elim hk_ (fun hs_ => Or.elim hs_ (fun hs_ => fun e_ => Nat.not_le.2 hs_ (by rw [e_]; exact GW561.out)) (fun hs_ => Or.elim hs_ (fun hs_ => fun e_ => Nat.not_le.2 hs_ (by rw [e_]; exact GW561.out)) (fun hs_ => fun e_ => Nat.not_le.2 hs_ (by rw [e_]; exact GW561.out)))) (fun hn_ => (Kd.freshB (g := gb561) (o := .cells #[.slice none 0 0, .slice none 0 0, .int .u64 0, .slice none 0 0] 29 (0, 0)) (bT_ BK561.out) k_ hn_))⟩)) (below_size beT_)); have n3_ := Aside0.mk (blk_below (g := gb557) (o := .cells #[.slice A0_0 l0_0.length c0_0, .slice A0_1 l0_1.length c0_1, .int .u64 a0_2, .slice A0_3 l0_3.length c0_3] 29 (0, 0)) (bT_ BK557.out) hb); have n4_ := Aside0.mk (blk_below (g := gb561) (o := .cells #[.slice none 0 0, .slice none 0 0, .int .u64 0, .slice none 0 0] 29 (0, 0)) (bT_ BK561.out) hb); have n5_ := Aside0.mk (below_step beT_ hb); clear BK557; clear BK561; clear HB; have HO575 := n0_; have HO578 := n1_; have HO582 := n2_; have BK557 := n3_; have BK561 := n4_; have HB := n5_; clear n0_ n1_ n2_ n3_ n4_ n5_; (try clear hb); (try clear hb2); (try clear hk); (try clear hi); (try clear ho0); (try clear ho1); (try clear ho2); obtain ⟨Ao36, co36, eo36⟩ := Kd.V_slice HO575.out; subst eo36; have hcz37_0 : w35.cell? ⟨gb561, 0, none⟩ = some (.slice none 0 0) := (blk_cell BK561.out 0).trans rfl; have hcz37_1 : w35.cell? ⟨gb561, 1, none⟩ = some (.slice none 0 0) := (blk_cell BK561.out 1).trans rfl; have hcz37_2 : w35.cell? ⟨gb561, 2, none⟩ = some (.int .u64 0) := (blk_cell BK561.out 2).trans rfl; have hcz37_3 : w35.cell? ⟨gb561, 3, none⟩ = some (.slice none 0 0) := (blk_cell BK561.out 3).trans rfl; have hfz37_0 := blk_frozen BK561.out 0; have hfz37_1 := blk_frozen BK561.out 1; have hfz37_2 := blk_frozen BK561.out 2; have hfz37_3 := blk_frozen BK561.out 3; obtain ⟨Ao38, co38, eo38⟩ := Kd.V_slice HO578.out; subst eo38; obtain ⟨Ao39, co39, eo39⟩ := Kd.V_slice HO582.out; subst eo39))
          go_meet
          case rel => exact ⟨_, (t573), (t576), (t579), (t580), (.slice Ao36 t573.length co36), (.slice Ao38 t576.length co38), (.slice Ao39 t580.length co39), H', ⟨by have := HJ5.out; first | omega | exact Nat.le_refl _⟩, ⟨by (with_reducible repeat (first | apply Kd.V_alloc | apply Kd.V_drewN | apply Kd.V_drew)); exact Kd.V_mono (Kd.V_far (p := ⟨gb561, 3, none⟩) (Kd.V_far (p := ⟨gb561, 2, none⟩) (Kd.V_far (p := ⟨gb561, 1, none⟩) (Kd.V_far (p := ⟨gb561, 0, none⟩) (Kd.V_mono HO575.out (fun k_ hk => (⟨hk, by first | exact hk.2 | exact hk.2.1 | exact hk.2.2⟩ : _ ∧ k_ ≠ gb561))) (fun _ hk => hk.2) (.slice Ao36 t573.length co36)) (fun _ hk => hk.2) (.slice Ao38 t576.length co38)) (fun _ hk => hk.2) (.int .u64 t579)) (fun _ hk => hk.2) (.slice Ao39 t580.length co39)) (fun _ hk => ⟨hk.1.1, hk.1.2⟩)⟩, ⟨by (with_reducible repeat (first | apply Kd.V_alloc | apply Kd.V_drewN | apply Kd.V_drew)); exact Kd.V_mono (Kd.V_far (p := ⟨gb561, 3, none⟩) (Kd.V_far (p := ⟨gb561, 2, none⟩) (Kd.V_far (p := ⟨gb561, 1, none⟩) (Kd.V_far (p := ⟨gb561, 0, none⟩) (Kd.V_mono HO578.out (fun k_ hk => (⟨hk, by first | exact hk.2 | exact hk.2.1 | exact hk.2.2⟩ : _ ∧ k_ ≠ gb561))) (fun _ hk => hk.2) (.slice Ao36 t573.length co36)) (fun _ hk => hk.2) (.slice Ao38 t576.length co38)) (fun _ hk => hk.2) (.int .u64 t579)) (fun _ hk => hk.2) (.slice Ao39 t580.length co39)) (fun _ hk => ⟨hk.1.1, hk.1.2⟩)⟩, ⟨by (with_reducible repeat (first | apply Kd.V_alloc | apply Kd.V_drewN | apply Kd.V_drew)); exact Kd.V_mono (Kd.V_far (p := ⟨gb561, 3, none⟩) (Kd.V_far (p := ⟨gb561, 2, none⟩) (Kd.V_far (p := ⟨gb561, 1, none⟩) (Kd.V_far (p := ⟨gb561, 0, none⟩) (Kd.V_mono HO582.out (fun k_ hk => (⟨hk, by first | exact hk.2 | exact hk.2.1 | exact hk.2.2⟩ : _ ∧ k_ ≠ gb561))) (fun _ hk => hk.2) (.slice Ao36 t573.length co36)) (fun _ hk => hk.2) (.slice Ao38 t576.length co38)) (fun _ hk => hk.2) (.int .u64 t579)) (fun _ hk => hk.2) (.slice Ao39 t580.length co39)) (fun _ hk => ⟨hk.1.1, hk.1.2⟩)⟩, ⟨by (with_reducible repeat (first | refine blk_drewN ?_ _ | refine blk_drew ?_ | refine blk_alloc ?_ _)); refine blk_far ?_ NB557_561.out _; (with_reducible repeat (first | refine blk_drewN ?_ _ | refine blk_drew ?_ | refine blk_alloc ?_ _)); refine blk_far ?_ NB557_561.out _; (with_reducible repeat (first | refine blk_drewN ?_ _ | refine blk_drew ?_ | refine blk_alloc ?_ _)); refine blk_far ?_ NB557_561.out _; (with_reducible repeat (first | refine blk_drewN ?_ _ | refine blk_drew ?_ | refine blk_alloc ?_ _)); refine blk_far ?_ NB557_561.out _; (with_reducible repeat (first | refine blk_drewN ?_ _ | refine blk_drew ?_ | refine blk_alloc ?_ _)); exact BK557.out⟩, ⟨by (with_reducible repeat (first | refine blk_drewN ?_ _ | refine blk_drew ?_ | refine blk_alloc ?_ _)); refine blk_put (cs := #[.slice Ao36 t573.length co36, .slice Ao38 t576.length co38, .int .u64 t579, .slice none 0 0]) ?_ 3 _ rfl; (with_reducible repeat (first | refine blk_drewN ?_ _ | refine blk_drew ?_ | refine blk_alloc ?_ _)); refine blk_put (cs := #[.slice Ao36 t573.length co36, .slice Ao38 t576.length co38, .int .u64 0, .slice none 0 0]) ?_ 2 _ rfl; (with_reducible repeat (first | refine blk_drewN ?_ _ | refine blk_drew ?_ | refine blk_alloc ?_ _)); refine blk_put (cs := #[.slice Ao36 t573.length co36, .slice none 0 0, .int .u64 0, .slice none 0 0]) ?_ 1 _ rfl; (with_reducible repeat (first | refine blk_drewN ?_ _ | refine blk_drew ?_ | refine blk_alloc ?_ _)); refine blk_put (cs := #[.slice none 0 0, .slice none 0 0, .int .u64 0, .slice none 0 0]) ?_ 0 _ rfl; (with_reducible repeat (first | refine blk_drewN ?_ _ | refine blk_drew ?_ | refine blk_alloc ?_ _)); exact BK561.out⟩, ⟨by repeat (first | (with_reducible first | exact HB.out | apply below_alloc | apply pw_below_drewN | apply below_drew1 | refine below_set ?_ GE557.out | refine below_set ?_ GE561.out) | exact HB.out)⟩⟩
        rw [if_neg c31] at H
        have c31b0 : ((Int.tmod a4 3) == 1) = false := beq_eq_false_iff_ne.mpr c31
        have c31b1 : ((Int.tmod a4 3) != 1) = true := bne_iff_ne.mpr c31
        replace H := Option.bind_eq_some_iff.mp H
        obtain ⟨⟨t584, t587, t590, t591, t594⟩, A400, H⟩ := H
        replace H : (ferrylaw04_GuestElse.j1 kj5 l0_0 l0_1 a0_2 l0_3 t584 t587 t590 t591) = some r := H
        have A40 := Aside0.mk A400
        clear A400
        have H' := Aside0.mk H
        clear H
        have hnb41 := NB557_561.out
        have hnc41 := NB561_557.out
        have hcz42_0 : w21.cell? ⟨gb557, 0, none⟩ = some (.slice A0_0 l0_0.length c0_0) := (blk_cell BK557.out 0).trans rfl
        have hcz42_1 : w21.cell? ⟨gb557, 1, none⟩ = some (.slice A0_1 l0_1.length c0_1) := (blk_cell BK557.out 1).trans rfl
        have hcz42_2 : w21.cell? ⟨gb557, 2, none⟩ = some (.int .u64 a0_2) := (blk_cell BK557.out 2).trans rfl
        have hcz42_3 : w21.cell? ⟨gb557, 3, none⟩ = some (.slice A0_3 l0_3.length c0_3) := (blk_cell BK557.out 3).trans rfl
        have hfz42_0 := blk_frozen BK557.out 0
        have hfz42_1 := blk_frozen BK557.out 1
        have hfz42_2 := blk_frozen BK557.out 2
        have hfz42_3 := blk_frozen BK557.out 3
        go_wp2_with (first | ((with_reducible refine gate_callee (f := 19) rfl ?_); refine goesL_ (some 28) rfl rfl Try.func19 (by kernel_rfl) rfl #[.agg #[.slice A0_0 l0_0.length c0_0, .slice A0_1 l0_1.length c0_1, .int .u64 a0_2, .slice A0_3 l0_3.length c0_3], .int .u32 a1, .int .u32 a2, .int .i64 a3] rfl (by (try simp only [List.map_toArray, List.map_cons, List.map_nil]); first | done | rfl | (simp only [List.length_drop, List.length_take]; rfl)) ?_; (with_reducible refine (guest_Protect.calls kj5 (fun k_ => k_ < w.heap.size) _ _ l0_0 (fun k_ => k_ < w.heap.size) _ _ l0_1 a0_2 (fun k_ => k_ < w.heap.size) _ _ l0_3 a1 a2 a3 t584 t587 t590 t591 t594 _ ?side1 ?side2 ?side3 A40.out).mono ?_); (case side1 => exact Kd.V_mk HC0_0.out (Kd.F_below (Kd.C_F k55_heap HR0_0.out) beT_)); (case side2 => exact Kd.V_mk HC0_1.out (Kd.F_below (Kd.C_F k60_heap HR0_1.out) beT_)); (case side3 => exact Kd.V_mk HC0_3.out (Kd.F_below (Kd.C_F k39_heap HR0_3.out) beT_)); rintro e w43 ⟨v585, v588, v592, rfl, ho0, ho1, ho2, hb⟩; refine ⟨_, rfl, ?_⟩; have n0_ := Aside0.mk (Kd.V_lower (Kd.V_mono (ok' := fun k_ => k_ ≠ gb557 ∧ k_ ≠ gb561) ho0 (fun k_ hk_ => ⟨Or.elim hk_ (fun hs_ => Or.elim hs_ (fun hs_ => fun e_ => Nat.not_le.2 hs_ (by rw [e_]; exact GW557.out)) (fun hs_ => Or.elim hs_ (fun hs_ => fun e_ => Nat.not_le.2 hs_ (by rw [e_]; exact GW557.out)) (fun hs_ => fun e_ => Nat.not_le.2 hs_ (by rw [e_]; exact GW557.out)))) (fun hn_ => (Kd.freshB (g := gb557) (o := .cells #[.slice A0_0 l0_0.length c0_0, .slice A0_1 l0_1.length c0_1, .int .u64 a0_2, .slice A0_3 l0_3.length c0_3] 29 (0, 0)) (bT_ BK557.out) k_ hn_)), Or.elim hk_ (fun hs_ => Or.elim hs_ (fun hs_ => fun e_ => Nat.not_le.2 hs_ (by rw [e_]; exact GW561.out)) (fun hs_ => Or.elim hs_ (fun hs_ => fun e_ => Nat.not_le.2 hs_ (by rw [e_]; exact GW561.out)) (fun hs_ => fun e_ => Nat.not_le.2 hs_ (by rw [e_]; exact GW561.out)))) (fun hn_ => (Kd.freshB (g := gb561) (o := .cells #[.slice none 0 0, .slice none 0 0, .int .u64 0, .slice none 0 0] 29 (0, 0)) (bT_ BK561.out) k_ hn_))⟩)) (below_size beT_)); have n1_ := Aside0.mk (Kd.V_lower (Kd.V_mono (ok' := fun k_ => k_ ≠ gb557 ∧ k_ ≠ gb561) ho1 (fun k_ hk_ => ⟨Or.elim hk_ (fun hs_ => Or.elim hs_ (fun hs_ => fun e_ => Nat.not_le.2 hs_ (by rw [e_]; exact GW557.out)) (fun hs_ => Or.elim hs_ (fun hs_ => fun e_ => Nat.not_le.2 hs_ (by rw [e_]; exact GW557.out)) (fun hs_ => fun e_ => Nat.not_le.2 hs_ (by rw [e_]; exact GW557.out)))) (fun hn_ => (Kd.freshB (g := gb557) (o := .cells #[.slice A0_0 l0_0.length c0_0, .slice A0_1 l0_1.length c0_1, .int .u64 a0_2, .slice A0_3 l0_3.length c0_3] 29 (0, 0)) (bT_ BK557.out) k_ hn_)), Or.elim hk_ (fun hs_ => Or.elim hs_ (fun hs_ => fun e_ => Nat.not_le.2 hs_ (by rw [e_]; exact GW561.out)) (fun hs_ => Or.elim hs_ (fun hs_ => fun e_ => Nat.not_le.2 hs_ (by rw [e_]; exact GW561.out)) (fun hs_ => fun e_ => Nat.not_le.2 hs_ (by rw [e_]; exact GW561.out)))) (fun hn_ => (Kd.freshB (g := gb561) (o := .cells #[.slice none 0 0, .slice none 0 0, .int .u64 0, .slice none 0 0] 29 (0, 0)) (bT_ BK561.out) k_ hn_))⟩)) (below_size beT_)); have n2_ := Aside0.mk (Kd.V_lower (Kd.V_mono (ok' := fun k_ => k_ ≠ gb557 ∧ k_ ≠ gb561) ho2 (fun k_ hk_ => ⟨Or.elim hk_ (fun hs_ => Or.elim hs_ (fun hs_ => fun e_ => Nat.not_le.2 hs_ (by rw [e_]; exact GW557.out)) (fun hs_ => Or.elim hs_ (fun hs_ => fun e_ => Nat.not_le.2 hs_ (by rw [e_]; exact GW557.out)) (fun hs_ => fun e_ => Nat.not_le.2 hs_ (by rw [e_]; exact GW557.out)))) (fun hn_ => (Kd.freshB (g := gb557) (o := .cells #[.slice A0_0 l0_0.length c0_0, .slice A0_1 l0_1.length c0_1, .int .u64 a0_2, .slice A0_3 l0_3.length c0_3] 29 (0, 0)) (bT_ BK557.out) k_ hn_)), Or.elim hk_ (fun hs_ => Or.elim hs_ (fun hs_ => fun e_ => Nat.not_le.2 hs_ (by rw [e_]; exact GW561.out)) (fun hs_ => Or.elim hs_ (fun hs_ => fun e_ => Nat.not_le.2 hs_ (by rw [e_]; exact GW561.out)) (fun hs_ => fun e_ => Nat.not_le.2 hs_ (by rw [e_]; exact GW561.out)))) (fun hn_ => (Kd.freshB (g := gb561) (o := .cells #[.slice none 0 0, .slice none 0 0, .int .u64 0, .slice none 0 0] 29 (0, 0)) (bT_ BK561.out) k_ hn_))⟩)) (below_size beT_)); have n3_ := Aside0.mk (blk_below (g := gb557) (o := .cells #[.slice A0_0 l0_0.length c0_0, .slice A0_1 l0_1.length c0_1, .int .u64 a0_2, .slice A0_3 l0_3.length c0_3] 29 (0, 0)) (bT_ BK557.out) hb); have n4_ := Aside0.mk (blk_below (g := gb561) (o := .cells #[.slice none 0 0, .slice none 0 0, .int .u64 0, .slice none 0 0] 29 (0, 0)) (bT_ BK561.out) hb); have n5_ := Aside0.mk (below_step beT_ hb); clear BK557; clear BK561; clear HB; have HO586 := n0_; have HO589 := n1_; have HO593 := n2_; have BK557 := n3_; have BK561 := n4_; have HB := n5_; clear n0_ n1_ n2_ n3_ n4_ n5_; (try clear hb); (try clear hb2); (try clear hk); (try clear hi); (try clear ho0); (try clear ho1); (try clear ho2); obtain ⟨Ao44, co44, eo44⟩ := Kd.V_slice HO586.out; subst eo44; have hcz45_0 : w43.cell? ⟨gb561, 0, none⟩ = some (.slice none 0 0) := (blk_cell BK561.out 0).trans rfl; have hcz45_1 : w43.cell? ⟨gb561, 1, none⟩ = some (.slice none 0 0) := (blk_cell BK561.out 1).trans rfl; have hcz45_2 : w43.cell? ⟨gb561, 2, none⟩ = some (.int .u64 0) := (blk_cell BK561.out 2).trans rfl; have hcz45_3 : w43.cell? ⟨gb561, 3, none⟩ = some (.slice none 0 0) := (blk_cell BK561.out 3).trans rfl; have hfz45_0 := blk_frozen BK561.out 0; have hfz45_1 := blk_frozen BK561.out 1; have hfz45_2 := blk_frozen BK561.out 2; have hfz45_3 := blk_frozen BK561.out 3; obtain ⟨Ao46, co46, eo46⟩ := Kd.V_slice HO589.out; subst eo46; obtain ⟨Ao47, co47, eo47⟩ := Kd.V_slice HO593.out; subst eo47))
        go_meet
        case rel => exact ⟨_, (t584), (t587), (t590), (t591), (.slice Ao44 t584.length co44), (.slice Ao46 t587.length co46), (.slice Ao47 t591.length co47), H', ⟨by have := HJ5.out; first | omega | exact Nat.le_refl _⟩, ⟨by (with_reducible repeat (first | apply Kd.V_alloc | apply Kd.V_drewN | apply Kd.V_drew)); exact Kd.V_mono (Kd.V_far (p := ⟨gb561, 3, none⟩) (Kd.V_far (p := ⟨gb561, 2, none⟩) (Kd.V_far (p := ⟨gb561, 1, none⟩) (Kd.V_far (p := ⟨gb561, 0, none⟩) (Kd.V_mono HO586.out (fun k_ hk => (⟨hk, by first | exact hk.2 | exact hk.2.1 | exact hk.2.2⟩ : _ ∧ k_ ≠ gb561))) (fun _ hk => hk.2) (.slice Ao44 t584.length co44)) (fun _ hk => hk.2) (.slice Ao46 t587.length co46)) (fun _ hk => hk.2) (.int .u64 t590)) (fun _ hk => hk.2) (.slice Ao47 t591.length co47)) (fun _ hk => ⟨hk.1.1, hk.1.2⟩)⟩, ⟨by (with_reducible repeat (first | apply Kd.V_alloc | apply Kd.V_drewN | apply Kd.V_drew)); exact Kd.V_mono (Kd.V_far (p := ⟨gb561, 3, none⟩) (Kd.V_far (p := ⟨gb561, 2, none⟩) (Kd.V_far (p := ⟨gb561, 1, none⟩) (Kd.V_far (p := ⟨gb561, 0, none⟩) (Kd.V_mono HO589.out (fun k_ hk => (⟨hk, by first | exact hk.2 | exact hk.2.1 | exact hk.2.2⟩ : _ ∧ k_ ≠ gb561))) (fun _ hk => hk.2) (.slice Ao44 t584.length co44)) (fun _ hk => hk.2) (.slice Ao46 t587.length co46)) (fun _ hk => hk.2) (.int .u64 t590)) (fun _ hk => hk.2) (.slice Ao47 t591.length co47)) (fun _ hk => ⟨hk.1.1, hk.1.2⟩)⟩, ⟨by (with_reducible repeat (first | apply Kd.V_alloc | apply Kd.V_drewN | apply Kd.V_drew)); exact Kd.V_mono (Kd.V_far (p := ⟨gb561, 3, none⟩) (Kd.V_far (p := ⟨gb561, 2, none⟩) (Kd.V_far (p := ⟨gb561, 1, none⟩) (Kd.V_far (p := ⟨gb561, 0, none⟩) (Kd.V_mono HO593.out (fun k_ hk => (⟨hk, by first | exact hk.2 | exact hk.2.1 | exact hk.2.2⟩ : _ ∧ k_ ≠ gb561))) (fun _ hk => hk.2) (.slice Ao44 t584.length co44)) (fun _ hk => hk.2) (.slice Ao46 t587.length co46)) (fun _ hk => hk.2) (.int .u64 t590)) (fun _ hk => hk.2) (.slice Ao47 t591.length co47)) (fun _ hk => ⟨hk.1.1, hk.1.2⟩)⟩, ⟨by (with_reducible repeat (first | refine blk_drewN ?_ _ | refine blk_drew ?_ | refine blk_alloc ?_ _)); refine blk_far ?_ NB557_561.out _; (with_reducible repeat (first | refine blk_drewN ?_ _ | refine blk_drew ?_ | refine blk_alloc ?_ _)); refine blk_far ?_ NB557_561.out _; (with_reducible repeat (first | refine blk_drewN ?_ _ | refine blk_drew ?_ | refine blk_alloc ?_ _)); refine blk_far ?_ NB557_561.out _; (with_reducible repeat (first | refine blk_drewN ?_ _ | refine blk_drew ?_ | refine blk_alloc ?_ _)); refine blk_far ?_ NB557_561.out _; (with_reducible repeat (first | refine blk_drewN ?_ _ | refine blk_drew ?_ | refine blk_alloc ?_ _)); exact BK557.out⟩, ⟨by (with_reducible repeat (first | refine blk_drewN ?_ _ | refine blk_drew ?_ | refine blk_alloc ?_ _)); refine blk_put (cs := #[.slice Ao44 t584.length co44, .slice Ao46 t587.length co46, .int .u64 t590, .slice none 0 0]) ?_ 3 _ rfl; (with_reducible repeat (first | refine blk_drewN ?_ _ | refine blk_drew ?_ | refine blk_alloc ?_ _)); refine blk_put (cs := #[.slice Ao44 t584.length co44, .slice Ao46 t587.length co46, .int .u64 0, .slice none 0 0]) ?_ 2 _ rfl; (with_reducible repeat (first | refine blk_drewN ?_ _ | refine blk_drew ?_ | refine blk_alloc ?_ _)); refine blk_put (cs := #[.slice Ao44 t584.length co44, .slice none 0 0, .int .u64 0, .slice none 0 0]) ?_ 1 _ rfl; (with_reducible repeat (first | refine blk_drewN ?_ _ | refine blk_drew ?_ | refine blk_alloc ?_ _)); refine blk_put (cs := #[.slice none 0 0, .slice none 0 0, .int .u64 0, .slice none 0 0]) ?_ 0 _ rfl; (with_reducible repeat (first | refine blk_drewN ?_ _ | refine blk_drew ?_ | refine blk_alloc ?_ _)); exact BK561.out⟩, ⟨by repeat (first | (with_reducible first | exact HB.out | apply below_alloc | apply pw_below_drewN | apply below_drew1 | refine below_set ?_ GE557.out | refine below_set ?_ GE561.out) | exact HB.out)⟩⟩
      case rest =>
        clear HC20
        try clear c1
        try clear c2
        try clear p2
        try clear c3
        try clear c4
        try clear c6
        try clear c8
        try clear c9
        try clear c10
        try clear c11
        try clear c12
        try clear c17
        try clear c19
        try clear c22
        try clear c22b0
        try clear c22b1
        try clear c24
        try clear c31
        try clear c31b0
        try clear c31b1
        try clear c33
        try clear c41
        try clear hcz11_0
        try clear hcz11_1
        try clear hcz11_2
        try clear hcz11_3
        try clear hcz13_0
        try clear hcz13_1
        try clear hcz13_2
        try clear hcz13_3
        try clear hcz15_0
        try clear hcz15_1
        try clear hcz15_2
        try clear hcz15_3
        try clear hcz25_0
        try clear hcz25_1
        try clear hcz25_2
        try clear hcz25_3
        try clear hcz28_0
        try clear hcz28_1
        try clear hcz28_2
        try clear hcz28_3
        try clear hcz34_0
        try clear hcz34_1
        try clear hcz34_2
        try clear hcz34_3
        try clear hcz37_0
        try clear hcz37_1
        try clear hcz37_2
        try clear hcz37_3
        try clear hcz42_0
        try clear hcz42_1
        try clear hcz42_2
        try clear hcz42_3
        try clear hcz45_0
        try clear hcz45_1
        try clear hcz45_2
        try clear hcz45_3
        try clear hfz11_0
        try clear hfz11_1
        try clear hfz11_2
        try clear hfz11_3
        try clear hfz13_0
        try clear hfz13_1
        try clear hfz13_2
        try clear hfz13_3
        try clear hfz15_0
        try clear hfz15_1
        try clear hfz15_2
        try clear hfz15_3
        try clear hfz25_0
        try clear hfz25_1
        try clear hfz25_2
        try clear hfz25_3
        try clear hfz28_0
        try clear hfz28_1
        try clear hfz28_2
        try clear hfz28_3
        try clear hfz34_0
        try clear hfz34_1
        try clear hfz34_2
        try clear hfz34_3
        try clear hfz37_0
        try clear hfz37_1
        try clear hfz37_2
        try clear hfz37_3
        try clear hfz42_0
        try clear hfz42_1
        try clear hfz42_2
        try clear hfz42_3
        try clear hfz45_0
        try clear hfz45_1
        try clear hfz45_2
        try clear hfz45_3
        try clear p2
        obtain ⟨kq, x562000_19, x562001_19, x562002_19, x562003_19, u562000, u562001, u562003, HA, HJ19, HO_562000, HO_562001, HO_562003, BK557, BK561, HB⟩ := hcut
        cases kq with
        | zero => exact absurd HA.out (by simp [ferrylaw04_GuestElse.j1])
        | succ kj19 =>
          have H := HA.out
          clear HA
          simp only [ferrylaw04_GuestElse.j1] at H
          replace H := Option.bind_eq_some_iff.mp H
          obtain ⟨⟨t595, t598⟩, A480, H⟩ := H
          replace H : ((ferrylaw04_far.f kj19 x562000_19 x562001_19 x562002_19 x562003_19).bind fun bt601 => ((ferryref03_Same.f kj19 t595 t598 bt601.1 bt601.2).bind fun t607 => (if t607 = true then (if x562002_19 = a0_2 then ((ferrylaw04_awake.f kj19).bind fun t608 => (some t608)) else (none)) else (none)))) = some r := H
          have A48 := Aside0.mk A480
          clear A480
          replace H := Option.bind_eq_some_iff.mp H
          obtain ⟨⟨t601, t604⟩, A490, H⟩ := H
          replace H : ((ferryref03_Same.f kj19 t595 t598 t601 t604).bind fun t607 => (if t607 = true then (if x562002_19 = a0_2 then ((ferrylaw04_awake.f kj19).bind fun t608 => (some t608)) else (none)) else (none))) = some r := H
          have A49 := Aside0.mk A490
          clear A490
          replace H := Option.bind_eq_some_iff.mp H
          obtain ⟨t607, A500, H⟩ := H
          replace H : (if t607 = true then (if x562002_19 = a0_2 then ((ferrylaw04_awake.f kj19).bind fun t608 => (some t608)) else (none)) else (none)) = some r := H
          have A50 := Aside0.mk A500
          clear A500
          by_cases c51 : t607 = true
          · subst c51
            have H1 : (if x562002_19 = a0_2 then ((ferrylaw04_awake.f kj19).bind fun t608 => (some t608)) else (none)) = some r := by rw [if_pos rfl] at H; exact H
            clear H
            have H := H1
            clear H1
            by_cases c52 : x562002_19 = a0_2
            · rw [if_pos c52] at H
              have c52b0 : (x562002_19 == a0_2) = true := beq_iff_eq.mpr c52
              have c52b1 : (x562002_19 != a0_2) = false := bne_eq_false_iff_eq.mpr c52
              clear c52
              replace H := Option.bind_eq_some_iff.mp H
              obtain ⟨t608, A530, H⟩ := H
              replace H : (some t608) = some r := H
              have A53 := Aside0.mk A530
              clear A530
              obtain rfl := Option.some.inj H
              try go_wp2
              have n0_ := Aside0.mk (Kd.V_drew HO_562000.out)
              have n1_ := Aside0.mk (Kd.V_drew HO_562001.out)
              have n2_ := Aside0.mk (Kd.V_drew HO_562003.out)
              have n3_ := Aside0.mk (blk_drew BK557.out)
              have n4_ := Aside0.mk (blk_drew BK561.out)
              have n5_ := Aside0.mk (below_drew1 HB.out)
              clear HO_562000
              clear HO_562001
              clear HO_562003
              clear BK557
              clear BK561
              clear HB
              have HO_562000 := n0_
              have HO_562001 := n1_
              have HO_562003 := n2_
              have BK557 := n3_
              have BK561 := n4_
              have HB := n5_
              clear n0_ n1_ n2_ n3_ n4_ n5_
              refine start_ (n := 16) (S := fun w' => w'.cell? ⟨gb557, 0, none⟩ = some (.slice A0_0 l0_0.length c0_0) ∧ w'.cell? ⟨gb557, 1, none⟩ = some (.slice A0_1 l0_1.length c0_1) ∧ w'.cell? ⟨gb557, 2, none⟩ = some (.int .u64 a0_2) ∧ w'.cell? ⟨gb557, 3, none⟩ = some (.slice A0_3 l0_3.length c0_3) ∧ w'.cell? ⟨gb561, 0, none⟩ = some (u562000) ∧ w'.cell? ⟨gb561, 1, none⟩ = some (u562001) ∧ w'.cell? ⟨gb561, 2, none⟩ = some (.int .u64 x562002_19) ∧ w'.cell? ⟨gb561, 3, none⟩ = some (u562003)) (ds := []) #[false, false, false, false, false, false, false, false, false, false, false, false, false, false, false, false] (by kernel_rfl) rfl rfl ⟨(blk_cell BK557.out 0).trans rfl, (blk_cell BK557.out 1).trans rfl, (blk_cell BK557.out 2).trans rfl, (blk_cell BK557.out 3).trans rfl, (blk_cell BK561.out 0).trans rfl, (blk_cell BK561.out 1).trans rfl, (blk_cell BK561.out 2).trans rfl, (blk_cell BK561.out 3).trans rfl⟩ (fun hHeld => ?_); refine with_tabW ferrylaw04_GuestElse.tab10 ferrylaw04_GuestElse.bits10 (fun HT_ HW_ => ?_)
              generalize wc.drew = w54 at HO_562000 HO_562001 HO_562003 BK557 BK561 HB hHeld ⊢
              refine t8S_ 0 50 (mb_ 16 1) ?_
              refine t8S_ 2 52 (mb_ 16 5) ?_
              refine one_ (i := 1) (N := some 51) (mb_ 16 7) rfl rfl (one_of HT_.out (by kernel_rfl)) (by decide) (fun K hK => ?_)
              refine goes_ Try.func22 (by kernel_rfl) rfl #[.agg #[.slice A0_0 l0_0.length c0_0, .slice A0_1 l0_1.length c0_1, .int .u64 a0_2, .slice A0_3 l0_3.length c0_3]] (by rfl) rfl rfl (by (try simp only [List.map_toArray, List.map_cons, List.map_nil]); first | done | rfl | (simp only [List.length_drop, List.length_take]; rfl)) ?_
              with_reducible refine (ferrylaw04_far.calls kj19 _ _ l0_0 _ _ l0_1 a0_2 _ _ l0_3 t595 t598 _ ?side1 ?side2 ?side3 ?side4 ?side5 ?side6 A48.out).mono ?_
              (case side1 => repeat (first | exact (Kd.C_below HR0_0.out HB.out) | (with_reducible refine Kd.C_alloc ?_ _) | (with_reducible refine Kd.C_drewN ?_ _) | (with_reducible refine Kd.C_drew ?_)))
              (case side2 => exact HC0_0.out)
              (case side3 => repeat (first | exact (Kd.C_below HR0_1.out HB.out) | (with_reducible refine Kd.C_alloc ?_ _) | (with_reducible refine Kd.C_drewN ?_ _) | (with_reducible refine Kd.C_drew ?_)))
              (case side4 => exact HC0_1.out)
              (case side5 => repeat (first | exact (Kd.C_below HR0_3.out HB.out) | (with_reducible refine Kd.C_alloc ?_ _) | (with_reducible refine Kd.C_drewN ?_ _) | (with_reducible refine Kd.C_drew ?_)))
              (case side6 => exact HC0_3.out)
              rintro e w55 ⟨v596, v599, rfl, ho0, ho1, hb⟩
              refine ⟨_, rfl, ?_⟩
              have n0_ := Aside0.mk (Kd.V_mono (Kd.V_told (Kd.V_told (Kd.V_old (vT_ HO_562000.out) hb) (Kd.R_base ho0)) (Kd.R_base ho1)) (fun _ h_ => h_.1))
              have n1_ := Aside0.mk (Kd.V_mono (Kd.V_told (Kd.V_told (Kd.V_old (vT_ HO_562001.out) hb) (Kd.R_base ho0)) (Kd.R_base ho1)) (fun _ h_ => h_.1))
              have n2_ := Aside0.mk (Kd.V_mono (Kd.V_told (Kd.V_told (Kd.V_old (vT_ HO_562003.out) hb) (Kd.R_base ho0)) (Kd.R_base ho1)) (fun _ h_ => h_.1))
              have n3_ := Aside0.mk (Kd.R_lower ho0 (below_size beT_))
              have n4_ := Aside0.mk (Kd.R_lower ho1 (below_size beT_))
              have n5_ := Aside0.mk (blk_below (g := gb557) (o := .cells #[.slice A0_0 l0_0.length c0_0, .slice A0_1 l0_1.length c0_1, .int .u64 a0_2, .slice A0_3 l0_3.length c0_3] 29 (0, 0)) (bT_ BK557.out) hb)
              have n6_ := Aside0.mk (blk_below (g := gb561) (o := .cells #[u562000, u562001, .int .u64 x562002_19, u562003] 29 (0, 0)) (bT_ BK561.out) hb)
              have n7_ := Aside0.mk (below_step beT_ hb)
              clear HO_562000
              clear HO_562001
              clear HO_562003
              clear BK557
              clear BK561
              clear HB
              have HO_562000 := n0_
              have HO_562001 := n1_
              have HO_562003 := n2_
              have HO597 := n3_
              have HO600 := n4_
              have BK557 := n5_
              have BK561 := n6_
              have HB := n7_
              clear n0_ n1_ n2_ n3_ n4_ n5_ n6_ n7_
              (try clear hb)
              (try clear hb2)
              (try clear hk)
              (try clear hi)
              (try clear ho0)
              (try clear ho1)
              obtain ⟨Ao56, co56, eo56⟩ := Kd.V_slice HO_562000.out
              (first | subst eo56 | (injection eo56 with f1_ f2_ f3_; have f4_ := f1_.symm; have f5_ := f3_.symm; clear f1_ f2_ f3_; subst f4_; subst f5_))
              obtain ⟨Ao57, co57, eo57⟩ := Kd.V_slice HO_562001.out
              (first | subst eo57 | (injection eo57 with f1_ f2_ f3_; have f4_ := f1_.symm; have f5_ := f3_.symm; clear f1_ f2_ f3_; subst f4_; subst f5_))
              obtain ⟨Ao58, co58, eo58⟩ := Kd.V_slice HO_562003.out
              (first | subst eo58 | (injection eo58 with f1_ f2_ f3_; have f4_ := f1_.symm; have f5_ := f3_.symm; clear f1_ f2_ f3_; subst f4_; subst f5_))
              refine hK.out _ _ ⟨(blk_cell BK557.out 0).trans rfl, (blk_cell BK557.out 1).trans rfl, (blk_cell BK557.out 2).trans rfl, (blk_cell BK557.out 3).trans rfl, (blk_cell BK561.out 0).trans rfl, (blk_cell BK561.out 1).trans rfl, (blk_cell BK561.out 2).trans rfl, (blk_cell BK561.out 3).trans rfl⟩ (fun hHeld => ?_)
              clear hK K
              refine nS_ ?_
              refine one_ (i := 3) (N := some 53) (mb_ 16 15) rfl rfl (one_of HT_.out (by kernel_rfl)) (by decide) (fun K hK => ?_)
              refine goes_ Try.func22 (by kernel_rfl) rfl #[.agg #[.slice Ao56 x562000_19.length co56, .slice Ao57 x562001_19.length co57, .int .u64 x562002_19, .slice Ao58 x562003_19.length co58]] (by rfl) rfl rfl (by (try simp only [List.map_toArray, List.map_cons, List.map_nil]); first | done | rfl | (simp only [List.length_drop, List.length_take]; rfl)) ?_
              with_reducible refine (ferrylaw04_far.calls kj19 _ _ x562000_19 _ _ x562001_19 x562002_19 _ _ x562003_19 t601 t604 _ ?side1 ?side2 ?side3 ?side4 ?side5 ?side6 A49.out).mono ?_
              (case side1 => repeat (first | exact (Kd.V_reads' HO_562000.out).2.2 | (with_reducible refine Kd.C_alloc ?_ _) | (with_reducible refine Kd.C_drewN ?_ _) | (with_reducible refine Kd.C_drew ?_)))
              (case side2 => exact (Kd.V_reads' HO_562000.out).2.1)
              (case side3 => repeat (first | exact (Kd.V_reads' HO_562001.out).2.2 | (with_reducible refine Kd.C_alloc ?_ _) | (with_reducible refine Kd.C_drewN ?_ _) | (with_reducible refine Kd.C_drew ?_)))
              (case side4 => exact (Kd.V_reads' HO_562001.out).2.1)
              (case side5 => repeat (first | exact (Kd.V_reads' HO_562003.out).2.2 | (with_reducible refine Kd.C_alloc ?_ _) | (with_reducible refine Kd.C_drewN ?_ _) | (with_reducible refine Kd.C_drew ?_)))
              (case side6 => exact (Kd.V_reads' HO_562003.out).2.1)
              rintro e w59 ⟨v602, v605, rfl, ho0, ho1, hb⟩
              refine ⟨_, rfl, ?_⟩
              have n0_ := Aside0.mk (Kd.V_mono (Kd.V_told (Kd.V_told (Kd.V_old (vT_ HO_562000.out) hb) (Kd.R_base ho0)) (Kd.R_base ho1)) (fun _ h_ => h_.1))
              have n1_ := Aside0.mk (Kd.V_mono (Kd.V_told (Kd.V_told (Kd.V_old (vT_ HO_562001.out) hb) (Kd.R_base ho0)) (Kd.R_base ho1)) (fun _ h_ => h_.1))
              have n2_ := Aside0.mk (Kd.V_mono (Kd.V_told (Kd.V_told (Kd.V_old (vT_ HO_562003.out) hb) (Kd.R_base ho0)) (Kd.R_base ho1)) (fun _ h_ => h_.1))
              have n3_ := Aside0.mk (Kd.R_elder' (rT_ HO597.out) (Kd.R_base ho0) hb)
              have n4_ := Aside0.mk (Kd.R_elder' (rT_ HO600.out) (Kd.R_base ho1) hb)
              have n5_ := Aside0.mk (Kd.R_lower (Kd.R_new' ho0 (Kd.R_lt (rT_ HO597.out))) (below_size beT_))
              have n6_ := Aside0.mk (Kd.R_lower (Kd.R_new' ho1 (Kd.R_lt (rT_ HO600.out))) (below_size beT_))
              have n7_ := Aside0.mk (blk_below (g := gb557) (o := .cells #[.slice A0_0 l0_0.length c0_0, .slice A0_1 l0_1.length c0_1, .int .u64 a0_2, .slice A0_3 l0_3.length c0_3] 29 (0, 0)) (bT_ BK557.out) hb)
              have n8_ := Aside0.mk (blk_below (g := gb561) (o := .cells #[.slice Ao56 x562000_19.length co56, .slice Ao57 x562001_19.length co57, .int .u64 x562002_19, .slice Ao58 x562003_19.length co58] 29 (0, 0)) (bT_ BK561.out) hb)
              have n9_ := Aside0.mk (below_step beT_ hb)
              clear HO_562000
              clear HO_562001
              clear HO_562003
              clear HO597
              clear HO600
              clear BK557
              clear BK561
              clear HB
              have HO_562000 := n0_
              have HO_562001 := n1_
              have HO_562003 := n2_
              have HO597 := n3_
              have HO600 := n4_
              have HO603 := n5_
              have HO606 := n6_
              have BK557 := n7_
              have BK561 := n8_
              have HB := n9_
              clear n0_ n1_ n2_ n3_ n4_ n5_ n6_ n7_ n8_ n9_
              (try clear hb)
              (try clear hb2)
              (try clear hk)
              (try clear hi)
              (try clear ho0)
              (try clear ho1)
              obtain ⟨Ao60, co60, eo60⟩ := Kd.R_slice HO597.out
              (first | subst eo60 | (injection eo60 with f1_ f2_ f3_; have f4_ := f1_.symm; have f5_ := f3_.symm; clear f1_ f2_ f3_; subst f4_; subst f5_))
              obtain ⟨Ao61, co61, eo61⟩ := Kd.R_slice HO600.out
              (first | subst eo61 | (injection eo61 with f1_ f2_ f3_; have f4_ := f1_.symm; have f5_ := f3_.symm; clear f1_ f2_ f3_; subst f4_; subst f5_))
              obtain ⟨Ao62, co62, eo62⟩ := Kd.R_slice HO603.out
              (first | subst eo62 | (injection eo62 with f1_ f2_ f3_; have f4_ := f1_.symm; have f5_ := f3_.symm; clear f1_ f2_ f3_; subst f4_; subst f5_))
              obtain ⟨Ao63, co63, eo63⟩ := Kd.R_slice HO606.out
              (first | subst eo63 | (injection eo63 with f1_ f2_ f3_; have f4_ := f1_.symm; have f5_ := f3_.symm; clear f1_ f2_ f3_; subst f4_; subst f5_))
              refine hK.out _ _ ⟨(blk_cell BK557.out 0).trans rfl, (blk_cell BK557.out 1).trans rfl, (blk_cell BK557.out 2).trans rfl, (blk_cell BK557.out 3).trans rfl, (blk_cell BK561.out 0).trans rfl, (blk_cell BK561.out 1).trans rfl, (blk_cell BK561.out 2).trans rfl, (blk_cell BK561.out 3).trans rfl⟩ (fun hHeld => ?_)
              clear hK K
              refine nS_ ?_
              refine one_ (i := 4) (N := some 54) (mb_ 16 31) rfl rfl (one_of HT_.out (by kernel_rfl)) (by decide) (fun K hK => ?_)
              refine goes_ Try.func21 (by kernel_rfl) rfl #[.agg #[.slice Ao60 t595.length co60, .slice Ao61 t598.length co61], .agg #[.slice Ao62 t601.length co62, .slice Ao63 t604.length co63]] (by rfl) rfl rfl (by (try simp only [List.map_toArray, List.map_cons, List.map_nil]); first | done | rfl | (simp only [List.length_drop, List.length_take]; rfl)) ?_
              with_reducible refine (ferryref03_Same.calls kj19 _ _ t595 _ _ t598 _ _ t601 _ _ t604 true _ ?side1 ?side2 ?side3 ?side4 ?side5 ?side6 ?side7 ?side8 A50.out).mono ?_
              (case side1 => repeat (first | exact (Kd.R_reads' HO597.out).2.2 | (with_reducible refine Kd.C_alloc ?_ _) | (with_reducible refine Kd.C_drewN ?_ _) | (with_reducible refine Kd.C_drew ?_)))
              (case side2 => exact (Kd.R_reads' HO597.out).2.1)
              (case side3 => repeat (first | exact (Kd.R_reads' HO600.out).2.2 | (with_reducible refine Kd.C_alloc ?_ _) | (with_reducible refine Kd.C_drewN ?_ _) | (with_reducible refine Kd.C_drew ?_)))
              (case side4 => exact (Kd.R_reads' HO600.out).2.1)
              (case side5 => repeat (first | exact (Kd.R_reads' HO603.out).2.2 | (with_reducible refine Kd.C_alloc ?_ _) | (with_reducible refine Kd.C_drewN ?_ _) | (with_reducible refine Kd.C_drew ?_)))
              (case side6 => exact (Kd.R_reads' HO603.out).2.1)
              (case side7 => repeat (first | exact (Kd.R_reads' HO606.out).2.2 | (with_reducible refine Kd.C_alloc ?_ _) | (with_reducible refine Kd.C_drewN ?_ _) | (with_reducible refine Kd.C_drew ?_)))
              (case side8 => exact (Kd.R_reads' HO606.out).2.1)
              rintro e w64 ⟨rfl, hb⟩
              refine ⟨_, rfl, ?_⟩
              have n0_ := Aside0.mk (Kd.V_below (vT_ HO_562000.out) hb)
              have n1_ := Aside0.mk (Kd.V_below (vT_ HO_562001.out) hb)
              have n2_ := Aside0.mk (Kd.V_below (vT_ HO_562003.out) hb)
              have n3_ := Aside0.mk (Kd.R_below (rT_ HO597.out) hb)
              have n4_ := Aside0.mk (Kd.R_below (rT_ HO600.out) hb)
              have n5_ := Aside0.mk (Kd.R_below (rT_ HO603.out) hb)
              have n6_ := Aside0.mk (Kd.R_below (rT_ HO606.out) hb)
              have n7_ := Aside0.mk (blk_below (g := gb557) (o := .cells #[.slice A0_0 l0_0.length c0_0, .slice A0_1 l0_1.length c0_1, .int .u64 a0_2, .slice A0_3 l0_3.length c0_3] 29 (0, 0)) (bT_ BK557.out) hb)
              have n8_ := Aside0.mk (blk_below (g := gb561) (o := .cells #[.slice Ao56 x562000_19.length co56, .slice Ao57 x562001_19.length co57, .int .u64 x562002_19, .slice Ao58 x562003_19.length co58] 29 (0, 0)) (bT_ BK561.out) hb)
              have n9_ := Aside0.mk (below_step beT_ hb)
              clear HO_562000
              clear HO_562001
              clear HO_562003
              clear HO597
              clear HO600
              clear HO603
              clear HO606
              clear BK557
              clear BK561
              clear HB
              have HO_562000 := n0_
              have HO_562001 := n1_
              have HO_562003 := n2_
              have HO597 := n3_
              have HO600 := n4_
              have HO603 := n5_
              have HO606 := n6_
              have BK557 := n7_
              have BK561 := n8_
              have HB := n9_
              clear n0_ n1_ n2_ n3_ n4_ n5_ n6_ n7_ n8_ n9_
              (try clear hb)
              (try clear hb2)
              (try clear hk)
              (try clear hi)
              refine hK.out _ _ ⟨(blk_cell BK557.out 0).trans rfl, (blk_cell BK557.out 1).trans rfl, (blk_cell BK557.out 2).trans rfl, (blk_cell BK557.out 3).trans rfl, (blk_cell BK561.out 0).trans rfl, (blk_cell BK561.out 1).trans rfl, (blk_cell BK561.out 2).trans rfl, (blk_cell BK561.out 3).trans rfl⟩ (fun hHeld => ?_)
              clear hK K
              refine nS_ ?_
              refine pS_ 5 55 (mb_ 16 63) ?_
              refine pS_ 6 56 (mb_ 16 127) ?_
              refine pS_ 8 58 (mb_ 16 383) ?_
              refine t8S_ 7 57 (mb_ 16 511) ?_
              refine t8S_ 9 59 (mb_ 16 1023) ?_
              refine pS_ 10 60 (mb_ 16 2047) ?_
              refine pS_ 11 61 (mb_ 16 4095) ?_
              refine pS_ 12 62 (mb_ 16 8191) ?_
              refine one_ (i := 13) (N := some 63) (mb_ 16 16383) rfl rfl (one_of HT_.out (by kernel_rfl)) (by decide) (fun K hK => ?_)
              refine goes_ Try.func10 (by kernel_rfl) rfl #[] (by rfl) rfl rfl (by (try simp only [List.map_toArray, List.map_cons, List.map_nil]); first | done | rfl | (simp only [List.length_drop, List.length_take]; rfl)) ?_
              with_reducible refine (ferrylaw04_awake.calls kj19  t608 _ A53.out).mono ?_
              rintro e w65 ⟨rfl, hb⟩
              refine ⟨_, rfl, ?_⟩
              have n0_ := Aside0.mk (Kd.V_below (vT_ HO_562000.out) hb)
              have n1_ := Aside0.mk (Kd.V_below (vT_ HO_562001.out) hb)
              have n2_ := Aside0.mk (Kd.V_below (vT_ HO_562003.out) hb)
              have n3_ := Aside0.mk (Kd.R_below (rT_ HO597.out) hb)
              have n4_ := Aside0.mk (Kd.R_below (rT_ HO600.out) hb)
              have n5_ := Aside0.mk (Kd.R_below (rT_ HO603.out) hb)
              have n6_ := Aside0.mk (Kd.R_below (rT_ HO606.out) hb)
              have n7_ := Aside0.mk (blk_below (g := gb557) (o := .cells #[.slice A0_0 l0_0.length c0_0, .slice A0_1 l0_1.length c0_1, .int .u64 a0_2, .slice A0_3 l0_3.length c0_3] 29 (0, 0)) (bT_ BK557.out) hb)
              have n8_ := Aside0.mk (blk_below (g := gb561) (o := .cells #[.slice Ao56 x562000_19.length co56, .slice Ao57 x562001_19.length co57, .int .u64 x562002_19, .slice Ao58 x562003_19.length co58] 29 (0, 0)) (bT_ BK561.out) hb)
              have n9_ := Aside0.mk (below_step beT_ hb)
              clear HO_562000
              clear HO_562001
              clear HO_562003
              clear HO597
              clear HO600
              clear HO603
              clear HO606
              clear BK557
              clear BK561
              clear HB
              have HO_562000 := n0_
              have HO_562001 := n1_
              have HO_562003 := n2_
              have HO597 := n3_
              have HO600 := n4_
              have HO603 := n5_
              have HO606 := n6_
              have BK557 := n7_
              have BK561 := n8_
              have HB := n9_
              clear n0_ n1_ n2_ n3_ n4_ n5_ n6_ n7_ n8_ n9_
              (try clear hb)
              (try clear hb2)
              (try clear hk)
              (try clear hi)
              refine hK.out _ _ ⟨(blk_cell BK557.out 0).trans rfl, (blk_cell BK557.out 1).trans rfl, (blk_cell BK557.out 2).trans rfl, (blk_cell BK557.out 3).trans rfl, (blk_cell BK561.out 0).trans rfl, (blk_cell BK561.out 1).trans rfl, (blk_cell BK561.out 2).trans rfl, (blk_cell BK561.out 3).trans rfl⟩ (fun hHeld => ?_)
              clear hK K
              refine nS_ ?_
              refine pS_ 14 64 (mb_ 16 32767) ?_
              refine pS_ 15 10 (mb_ 16 65535) ?_
              refine done_ (done_of HT_.out (by kernel_rfl)) ?_
              try go_wp2
              go_ret
              exact ⟨by first | rfl | (simp [errW_none, errW_some] <;> rfl) | (simp [*, errW_none, errW_some] <;> rfl), by repeat (first | (with_reducible first | exact HB.out | apply below_alloc | apply pw_below_drewN | apply below_drew1 | refine below_set ?_ GE557.out | refine below_set ?_ GE561.out) | exact HB.out)⟩
            rw [if_neg c52] at H
            have c52b0 : (x562002_19 == a0_2) = false := beq_eq_false_iff_ne.mpr c52
            have c52b1 : (x562002_19 != a0_2) = true := bne_iff_ne.mpr c52
            exact absurd H (by simp)
          replace c51 := Bool.eq_false_iff.mpr c51
          subst c51
          have H1 : (none) = some r := by rw [if_neg (show ¬ (false = true) by decide)] at H; exact H
          clear H
          have H := H1
          clear H1
          exact absurd H (by simp)

end Go.Proofs.Ytjhfglpgpicmiaa.F
end
