import Derived.Below
import Derived.Deep.Draws
import Derived.Deep.AppendLies
import Derived.Maps.AppendAt
import Derived.OwnWalk
import Derived.Laws.BytesArg
import Derived.Laws.MakeOwn
import Derived.Laws.OwnMore
import Derived.Deep.OwnRows
import Derived.Tactics
import Derived.Lib.ConvBytes
import Derived.Laws.Slices
import Derived.WalkKit
import Derived.KernelRfl
import Derived.RowKit3
import Derived.Deep.LoopGhost
import Derived.Deep.QuietTactic
import Derived.BigQuiet
import Derived.WideLaws
import Derived.Deep.DeepCutAuto
import Derived.Deep.CutBlock
import Derived.Deep.RegionHeld3
import Derived.Laws.Rows
import Derived.Lib.AppendStr
import Derived.ArgAppend
import Derived.Laws.IdiomCopy
import Derived.RowKit
import Derived.OrdersHeld
import Derived.Laws.BitsLemmas
import Derived.Laws.StructEq
import Derived.OwnWalkIn
import Derived.WalkSmall
import Derived.Laws.ResultCell
import Derived.ProofKit
import Derived.Lib.Hide
import Derived.Shelf.RegionOpen
import Derived.Shelf.Abstract
import Derived.Lib.SliceRun
import Derived.Shelf.Spec.SlicesInsertGrow
import Derived.OpenShut
import Derived.Deep.Slices
import Derived.SizedLaws
import Derived.RangeFuncNested
import Derived.RangeFuncBound
import Derived.RangeFuncCalls
import Derived.RangeFuncLeaves
import Derived.RangeFuncWrites
import Derived.TacticsInMore
import Derived.LoopNIn
import Derived.LoopIn
import Derived.Stop.RegionWithIn
import Derived.Test.YtjhfglpgpicmiaaZF0
import Derived.Test.YtjhfglpgpicmiaaYA0
import Derived.Test.YtjhfglpgpicmiaaYA4HHost3
import Derived.Test.YtjhfglpgpicmiaaYA7Twice
import Derived.Test.YtjhfglpgpicmiaaYA8FFerryref04Fit
import Derived.Test.YtjhfglpgpicmiaaYA11
import Derived.Test.YtjhfglpgpicmiaaYA13
import Derived.Test.YtjhfglpgpicmiaaYA16HGuest7
import Derived.Test.YtjhfglpgpicmiaaYA17
import Derived.Test.YtjhfglpgpicmiaaYA18FFerrylaw04Awake
import Derived.Test.YtjhfglpgpicmiaaYA19
import Derived.Test.YtjhfglpgpicmiaaYB20FFerryref04Same
section
namespace Go.Proofs.Ytjhfglpgpicmiaa.F
open Go.RowKit Go.Proofs.YtjhfglpgpicmiaaW.PrintWords Go.Proofs.YtjhfglpgpicmiaaW.PrintLast Go.Proofs.YtjhfglpgpicmiaaW.PrintMore
attribute [local go_sem] max2_int min2_int max_two min_two max_three min_three max_four min_four
attribute [local go_sem] cell_twice
set_option linter.unusedVariables false
set_option linter.unusedSimpArgs false

mutual
def ferrylaw04_GuestAgain.j0 : Nat → Int → Int → Int → Bool → List (S55) → List (S60) → Int → List (S39) → Option (Bool)
  | 0, _, _, _, _, _, _, _, _ => none
  | k + 1, x1, x2, x3, x22, x274000, x274001, x274002, x274003 => if x22 = true then ((ferrylaw04_awake.f k).bind fun t276 => (some t276)) else (ferrylaw04_GuestAgain.l0 k x1 x2 x3 x274003 (x274003.length : Int) 0 x274000 x274001 x274002 x274003)
def ferrylaw04_GuestAgain.l0 : Nat → Int → Int → Int → List (S39) → Int → Int → List (S55) → List (S60) → Int → List (S39) → Option (Bool)
  | 0, _, _, _, _, _, _, _, _, _, _ => none
  | k + 1, x1, x2, x3, x25, x26, x27, x274000, x274001, x274002, x274003 => if x27 < x26 then (if 0 ≤ x27 then (if x27 < (x25.length : Int) then (if ((rd_T39 x25 x27).f0) ≥ x1 then (if ((((rd_T39 x25 x27).f0) - x1) % 4294967296) < x2 then ((ferrylaw04_awake.f k).bind fun t279 => (some t279)) else (ferrylaw04_GuestAgain.l0 k x1 x2 x3 x25 x26 (wrap64 (x27 + 1)) x274000 x274001 x274002 x274003)) else (ferrylaw04_GuestAgain.l0 k x1 x2 x3 x25 x26 (wrap64 (x27 + 1)) x274000 x274001 x274002 x274003)) else (none)) else (none)) else ((guest_Map.f x274000 x274001 x274002 x274003 x1 x2 x3).bind fun bt280 => (if bt280.2.2.2.2 = 0 then ((guest_Unmap.f bt280.1 bt280.2.1 bt280.2.2.1 bt280.2.2.2.1 x1 x2).bind fun bt292 => (if bt292.2.2.2.2 = 0 then ((ferryref04_Same.f k bt292.1 bt292.2.1 bt292.2.2.1 bt292.2.2.2.1 x274000 x274001 x274002 x274003).bind fun t304 => (if t304 = true then (if (bt280.2.2.2.1.length : Int) = (wrap64 ((x274003.length : Int) + (wrap64 (x2)))) then ((ferrylaw04_awake.f k).bind fun t305 => (some t305)) else (none)) else (none))) else (none))) else ((ferrylaw04_awake.f k).bind fun t306 => (some t306))))
end
def ferrylaw04_GuestAgain.f (k : Nat) (l0_0 : List (S55)) (l0_1 : List (S60)) (a0_2 : Int) (l0_3 : List (S39)) (a1 : Int) (a2 : Int) (a3 : Int) : Option (Bool) := (ferrylaw04_few.f l0_0 l0_1 a0_2 l0_3).bind fun t274 => (if t274 = true then ((ferryref04_Fit.f k l0_0 l0_1 a0_2 l0_3).bind fun t275 => (ferrylaw04_GuestAgain.j0 k a1 a2 a3 (!t275) l0_0 l0_1 a0_2 l0_3)) else (ferrylaw04_GuestAgain.j0 k a1 a2 a3 true l0_0 l0_1 a0_2 l0_3))
set_option maxHeartbeats 8000000 in
set_option maxRecDepth 100000 in
theorem ferrylaw04_GuestAgain.calls (k : Nat) (A0_0 : Option Addr) (c0_0 : Nat) (l0_0 : List (S55)) (A0_1 : Option Addr) (c0_1 : Nat) (l0_1 : List (S60)) (a0_2 : Int) (A0_3 : Option Addr) (c0_3 : Nat) (l0_3 : List (S39)) (a1 : Int) (a2 : Int) (a3 : Int) (r : Bool) (w : World) (hr0_0 : Kd.C k55 w A0_0 l0_0.length l0_0) (hc0_0 : l0_0.length ≤ c0_0) (hr0_1 : Kd.C k60 w A0_1 l0_1.length l0_1) (hc0_1 : l0_1.length ≤ c0_1) (hr0_3 : Kd.C k39 w A0_3 l0_3.length l0_3) (hc0_3 : l0_3.length ≤ c0_3) (h : ferrylaw04_GuestAgain.f k l0_0 l0_1 a0_2 l0_3 a1 a2 a3 = some r) :
    Calls Try.prog 4 #[.agg #[.slice A0_0 l0_0.length c0_0, .slice A0_1 l0_1.length c0_1, .int .u64 a0_2, .slice A0_3 l0_3.length c0_3], .int .u32 a1, .int .u32 a2, .int .i64 a3] w fun e w' => e = .returned (.bool r) ∧ Below w.heap.size w w' := by
  have hu29 := Try.underlying29
  have hu39 := Try.underlying39
  have HR0_0 := Aside0.mk hr0_0
  have HC0_0 := Aside0.mk hc0_0
  clear hr0_0 hc0_0
  have HR0_1 := Aside0.mk hr0_1
  have HC0_1 := Aside0.mk hc0_1
  clear hr0_1 hc0_1
  have HR0_3 := Aside0.mk hr0_3
  have HC0_3 := Aside0.mk hc0_3
  clear hr0_3 hc0_3
  have HB := Aside0.mk (Below.refl w.heap.size w)
  have H : ((ferrylaw04_few.f l0_0 l0_1 a0_2 l0_3).bind fun t274 => (if t274 = true then ((ferryref04_Fit.f k l0_0 l0_1 a0_2 l0_3).bind fun t275 => (ferrylaw04_GuestAgain.j0 k a1 a2 a3 (!t275) l0_0 l0_1 a0_2 l0_3)) else (ferrylaw04_GuestAgain.j0 k a1 a2 a3 true l0_0 l0_1 a0_2 l0_3))) = some r := h
  clear h
  have HC5 := Aside0.mk H
  clear H
  go_enter Try.func4, Try.ntmps4
  go_upto_region 1 with (first | ((with_reducible refine gate_dst (N := 4) rfl ?_); (try (refine gate_guard (by rfl) ?_; dsimp only)); refine box_event ?hg (N := 4) ?hd (cs := #[.slice A0_0 l0_0.length c0_0, .slice A0_1 l0_1.length c0_1, .int .u64 a0_2, .slice A0_3 l0_3.length c0_3]) (t := 29) ?hr ?_; (case hd => rfl); (case hg => rfl); (case hr => first | (go_simp; done) | (go_simp; rfl)); intro gb273 hg w6 hbox hb; have n0_ := Aside0.mk (below_step beT_ hb); have n1_ := Aside0.mk (hbox); have n2_ := Aside0.mk ((by rw [hg]; exact (below_size beT_) : w.heap.size ≤ gb273)); have n3_ := Aside0.mk ((by rw [hg]; exact (below_size beT_) : w.heap.size ≤ gb273)); clear HB; have HB := n0_; have BK273 := n1_; have GW273 := n2_; have GE273 := n3_; clear n0_ n1_ n2_ n3_; clear hb hbox hg))
  (try simp only [Act.put, List.setIfInBounds_toArray, List.set_cons_zero, List.set_cons_succ])
  go_cut [22] (fun v22 wc => ∃ (kq : Nat) (x22_4 : Bool), v22 = .bool x22_4 ∧ Aside0 (ferrylaw04_GuestAgain.j0 kq a1 a2 a3 x22_4 l0_0 l0_1 a0_2 l0_3 = some r) ∧ Aside0 (kq ≤ k) ∧ Aside0 (wc.heap[gb273]? = some (.cells #[(.slice A0_0 l0_0.length c0_0), (.slice A0_1 l0_1.length c0_1), .int .u64 a0_2, (.slice A0_3 l0_3.length c0_3)] 29 (0, 0))) ∧ Aside0 (Below w.heap.size w wc))
  case first =>
    have H := HC5.out
    clear HC5
    replace H := Option.bind_eq_some_iff.mp H
    obtain ⟨t274, A70, H⟩ := H
    replace H : (if t274 = true then ((ferryref04_Fit.f k l0_0 l0_1 a0_2 l0_3).bind fun t275 => (ferrylaw04_GuestAgain.j0 k a1 a2 a3 (!t275) l0_0 l0_1 a0_2 l0_3)) else (ferrylaw04_GuestAgain.j0 k a1 a2 a3 true l0_0 l0_1 a0_2 l0_3)) = some r := H
    have A7 := Aside0.mk A70
    clear A70
    by_cases c8 : t274 = true
    · subst c8
      have H1 : ((ferryref04_Fit.f k l0_0 l0_1 a0_2 l0_3).bind fun t275 => (ferrylaw04_GuestAgain.j0 k a1 a2 a3 (!t275) l0_0 l0_1 a0_2 l0_3)) = some r := by rw [if_pos rfl] at H; exact H
      clear H
      have H := H1
      clear H1
      replace H := Option.bind_eq_some_iff.mp H
      obtain ⟨t275, A90, H⟩ := H
      replace H : (ferrylaw04_GuestAgain.j0 k a1 a2 a3 (!t275) l0_0 l0_1 a0_2 l0_3) = some r := H
      have A9 := Aside0.mk A90
      clear A90
      have H' := Aside0.mk H
      clear H
      have hcz10_0 : w6.cell? ⟨gb273, 0, none⟩ = some (.slice A0_0 l0_0.length c0_0) := (blk_cell BK273.out 0).trans rfl
      have hcz10_1 : w6.cell? ⟨gb273, 1, none⟩ = some (.slice A0_1 l0_1.length c0_1) := (blk_cell BK273.out 1).trans rfl
      have hcz10_2 : w6.cell? ⟨gb273, 2, none⟩ = some (.int .u64 a0_2) := (blk_cell BK273.out 2).trans rfl
      have hcz10_3 : w6.cell? ⟨gb273, 3, none⟩ = some (.slice A0_3 l0_3.length c0_3) := (blk_cell BK273.out 3).trans rfl
      have hfz10_0 := blk_frozen BK273.out 0
      have hfz10_1 := blk_frozen BK273.out 1
      have hfz10_2 := blk_frozen BK273.out 2
      have hfz10_3 := blk_frozen BK273.out 3
      go_wp2_with (first | ((with_reducible refine gate_callee (f := 8) rfl ?_); refine goesL_ (some 16) rfl rfl Try.func8 (by kernel_rfl) rfl #[.agg #[.slice A0_0 l0_0.length c0_0, .slice A0_1 l0_1.length c0_1, .int .u64 a0_2, .slice A0_3 l0_3.length c0_3]] rfl (by (try simp only [List.map_toArray, List.map_cons, List.map_nil]); first | done | rfl | (simp only [List.length_drop, List.length_take]; rfl)) ?_; (with_reducible refine (ferrylaw04_few.calls _ _ l0_0 _ _ l0_1 a0_2 _ _ l0_3 true _ ?side1 ?side2 ?side3 ?side4 ?side5 ?side6 A7.out).mono ?_); (case side1 => repeat (first | exact (Kd.C_below HR0_0.out HB.out) | (with_reducible refine Kd.C_alloc ?_ _) | (with_reducible refine Kd.C_drewN ?_ _) | (with_reducible refine Kd.C_drew ?_))); (case side2 => exact HC0_0.out); (case side3 => repeat (first | exact (Kd.C_below HR0_1.out HB.out) | (with_reducible refine Kd.C_alloc ?_ _) | (with_reducible refine Kd.C_drewN ?_ _) | (with_reducible refine Kd.C_drew ?_))); (case side4 => exact HC0_1.out); (case side5 => repeat (first | exact (Kd.C_below HR0_3.out HB.out) | (with_reducible refine Kd.C_alloc ?_ _) | (with_reducible refine Kd.C_drewN ?_ _) | (with_reducible refine Kd.C_drew ?_))); (case side6 => exact HC0_3.out); rintro e w11 ⟨rfl, hb⟩; refine ⟨_, rfl, ?_⟩; have n0_ := Aside0.mk (blk_below (g := gb273) (o := .cells #[.slice A0_0 l0_0.length c0_0, .slice A0_1 l0_1.length c0_1, .int .u64 a0_2, .slice A0_3 l0_3.length c0_3] 29 (0, 0)) (bT_ BK273.out) hb); have n1_ := Aside0.mk (below_step beT_ hb); clear BK273; clear HB; have BK273 := n0_; have HB := n1_; clear n0_ n1_; (try clear hb); (try clear hb2); (try clear hk); (try clear hi); have hcz12_0 : w11.cell? ⟨gb273, 0, none⟩ = some (.slice A0_0 l0_0.length c0_0) := (blk_cell BK273.out 0).trans rfl; have hcz12_1 : w11.cell? ⟨gb273, 1, none⟩ = some (.slice A0_1 l0_1.length c0_1) := (blk_cell BK273.out 1).trans rfl; have hcz12_2 : w11.cell? ⟨gb273, 2, none⟩ = some (.int .u64 a0_2) := (blk_cell BK273.out 2).trans rfl; have hcz12_3 : w11.cell? ⟨gb273, 3, none⟩ = some (.slice A0_3 l0_3.length c0_3) := (blk_cell BK273.out 3).trans rfl; have hfz12_0 := blk_frozen BK273.out 0; have hfz12_1 := blk_frozen BK273.out 1; have hfz12_2 := blk_frozen BK273.out 2; have hfz12_3 := blk_frozen BK273.out 3) | (go_at_call 9; (with_reducible refine (ferryref04_Fit.calls k _ _ l0_0 _ _ l0_1 a0_2 _ _ l0_3 t275 _ ?side1 ?side2 ?side3 ?side4 ?side5 ?side6 A9.out).mono ?_); (case side1 => repeat (first | exact (Kd.C_below HR0_0.out HB.out) | (with_reducible refine Kd.C_alloc ?_ _) | (with_reducible refine Kd.C_drewN ?_ _) | (with_reducible refine Kd.C_drew ?_))); (case side2 => exact HC0_0.out); (case side3 => repeat (first | exact (Kd.C_below HR0_1.out HB.out) | (with_reducible refine Kd.C_alloc ?_ _) | (with_reducible refine Kd.C_drewN ?_ _) | (with_reducible refine Kd.C_drew ?_))); (case side4 => exact HC0_1.out); (case side5 => repeat (first | exact (Kd.C_below HR0_3.out HB.out) | (with_reducible refine Kd.C_alloc ?_ _) | (with_reducible refine Kd.C_drewN ?_ _) | (with_reducible refine Kd.C_drew ?_))); (case side6 => exact HC0_3.out); rintro e w13 ⟨rfl, hb⟩; have n0_ := Aside0.mk (blk_below (g := gb273) (o := .cells #[.slice A0_0 l0_0.length c0_0, .slice A0_1 l0_1.length c0_1, .int .u64 a0_2, .slice A0_3 l0_3.length c0_3] 29 (0, 0)) (bT_ BK273.out) hb); have n1_ := Aside0.mk (below_step beT_ hb); clear BK273; clear HB; have BK273 := n0_; have HB := n1_; clear n0_ n1_; (try clear hb); (try clear hb2); (try clear hk); (try clear hi)))
      go_meet
      case rel => exact ⟨_, (!t275), (by first | rfl | (simp; done) | (simp [*]; done)), H', ⟨by first | omega | exact Nat.le_refl _⟩, ⟨by (with_reducible repeat (first | refine blk_drewN ?_ _ | refine blk_drew ?_ | refine blk_alloc ?_ _)); exact BK273.out⟩, ⟨by repeat (first | (with_reducible first | exact HB.out | apply below_alloc | apply pw_below_drewN | apply below_drew1 | refine below_set ?_ GE273.out) | exact HB.out)⟩⟩
    replace c8 := Bool.eq_false_iff.mpr c8
    subst c8
    have H1 : (ferrylaw04_GuestAgain.j0 k a1 a2 a3 true l0_0 l0_1 a0_2 l0_3) = some r := by rw [if_neg (show ¬ (false = true) by decide)] at H; exact H
    clear H
    have H := H1
    clear H1
    have H' := Aside0.mk H
    clear H
    have hcz14_0 : w6.cell? ⟨gb273, 0, none⟩ = some (.slice A0_0 l0_0.length c0_0) := (blk_cell BK273.out 0).trans rfl
    have hcz14_1 : w6.cell? ⟨gb273, 1, none⟩ = some (.slice A0_1 l0_1.length c0_1) := (blk_cell BK273.out 1).trans rfl
    have hcz14_2 : w6.cell? ⟨gb273, 2, none⟩ = some (.int .u64 a0_2) := (blk_cell BK273.out 2).trans rfl
    have hcz14_3 : w6.cell? ⟨gb273, 3, none⟩ = some (.slice A0_3 l0_3.length c0_3) := (blk_cell BK273.out 3).trans rfl
    have hfz14_0 := blk_frozen BK273.out 0
    have hfz14_1 := blk_frozen BK273.out 1
    have hfz14_2 := blk_frozen BK273.out 2
    have hfz14_3 := blk_frozen BK273.out 3
    go_wp2_with (first | ((with_reducible refine gate_callee (f := 8) rfl ?_); refine goesL_ (some 16) rfl rfl Try.func8 (by kernel_rfl) rfl #[.agg #[.slice A0_0 l0_0.length c0_0, .slice A0_1 l0_1.length c0_1, .int .u64 a0_2, .slice A0_3 l0_3.length c0_3]] rfl (by (try simp only [List.map_toArray, List.map_cons, List.map_nil]); first | done | rfl | (simp only [List.length_drop, List.length_take]; rfl)) ?_; (with_reducible refine (ferrylaw04_few.calls _ _ l0_0 _ _ l0_1 a0_2 _ _ l0_3 false _ ?side1 ?side2 ?side3 ?side4 ?side5 ?side6 A7.out).mono ?_); (case side1 => repeat (first | exact (Kd.C_below HR0_0.out HB.out) | (with_reducible refine Kd.C_alloc ?_ _) | (with_reducible refine Kd.C_drewN ?_ _) | (with_reducible refine Kd.C_drew ?_))); (case side2 => exact HC0_0.out); (case side3 => repeat (first | exact (Kd.C_below HR0_1.out HB.out) | (with_reducible refine Kd.C_alloc ?_ _) | (with_reducible refine Kd.C_drewN ?_ _) | (with_reducible refine Kd.C_drew ?_))); (case side4 => exact HC0_1.out); (case side5 => repeat (first | exact (Kd.C_below HR0_3.out HB.out) | (with_reducible refine Kd.C_alloc ?_ _) | (with_reducible refine Kd.C_drewN ?_ _) | (with_reducible refine Kd.C_drew ?_))); (case side6 => exact HC0_3.out); rintro e w15 ⟨rfl, hb⟩; refine ⟨_, rfl, ?_⟩; have n0_ := Aside0.mk (blk_below (g := gb273) (o := .cells #[.slice A0_0 l0_0.length c0_0, .slice A0_1 l0_1.length c0_1, .int .u64 a0_2, .slice A0_3 l0_3.length c0_3] 29 (0, 0)) (bT_ BK273.out) hb); have n1_ := Aside0.mk (below_step beT_ hb); clear BK273; clear HB; have BK273 := n0_; have HB := n1_; clear n0_ n1_; (try clear hb); (try clear hb2); (try clear hk); (try clear hi)))
    go_meet
    case rel => exact ⟨_, (true), (by first | rfl | (simp; done) | (simp [*]; done)), H', ⟨by first | omega | exact Nat.le_refl _⟩, ⟨by (with_reducible repeat (first | refine blk_drewN ?_ _ | refine blk_drew ?_ | refine blk_alloc ?_ _)); exact BK273.out⟩, ⟨by repeat (first | (with_reducible first | exact HB.out | apply below_alloc | apply pw_below_drewN | apply below_drew1 | refine below_set ?_ GE273.out) | exact HB.out)⟩⟩
  case rest =>
    clear HC5
    try clear p2
    try clear c4
    try clear c8
    try clear hcz10_0
    try clear hcz10_1
    try clear hcz10_2
    try clear hcz10_3
    try clear hcz12_0
    try clear hcz12_1
    try clear hcz12_2
    try clear hcz12_3
    try clear hcz14_0
    try clear hcz14_1
    try clear hcz14_2
    try clear hcz14_3
    try clear hfz10_0
    try clear hfz10_1
    try clear hfz10_2
    try clear hfz10_3
    try clear hfz12_0
    try clear hfz12_1
    try clear hfz12_2
    try clear hfz12_3
    try clear hfz14_0
    try clear hfz14_1
    try clear hfz14_2
    try clear hfz14_3
    obtain ⟨kq, x22_4, rfl, HA, HJ4, BK273, HB⟩ := hcut
    cases kq with
    | zero => exact absurd HA.out (by simp [ferrylaw04_GuestAgain.j0])
    | succ kj4 =>
      have H := HA.out
      clear HA
      simp only [ferrylaw04_GuestAgain.j0] at H
      by_cases c16 : x22_4 = true
      · subst c16
        have H1 : ((ferrylaw04_awake.f kj4).bind fun t276 => (some t276)) = some r := by rw [if_pos rfl] at H; exact H
        clear H
        have H := H1
        clear H1
        replace H := Option.bind_eq_some_iff.mp H
        obtain ⟨t276, A170, H⟩ := H
        replace H : (some t276) = some r := H
        have A17 := Aside0.mk A170
        clear A170
        obtain rfl := Option.some.inj H
        go_wp2_with (first | ((with_reducible refine gate_callee (f := 10) rfl ?_); refine goesL_ (some 23) rfl rfl Try.func10 (by kernel_rfl) rfl #[] rfl (by (try simp only [List.map_toArray, List.map_cons, List.map_nil]); first | done | rfl | (simp only [List.length_drop, List.length_take]; rfl)) ?_; (with_reducible refine (ferrylaw04_awake.calls kj4  t276 _ A17.out).mono ?_); rintro e w18 ⟨rfl, hb⟩; refine ⟨_, rfl, ?_⟩; have n0_ := Aside0.mk (blk_below (g := gb273) (o := .cells #[.slice A0_0 l0_0.length c0_0, .slice A0_1 l0_1.length c0_1, .int .u64 a0_2, .slice A0_3 l0_3.length c0_3] 29 (0, 0)) (bT_ BK273.out) hb); have n1_ := Aside0.mk (below_step beT_ hb); clear BK273; clear HB; have BK273 := n0_; have HB := n1_; clear n0_ n1_; (try clear hb); (try clear hb2); (try clear hk); (try clear hi)))
        go_ret
        exact ⟨by first | rfl | (simp [errW_none, errW_some] <;> rfl) | (simp [*, errW_none, errW_some] <;> rfl), by repeat (first | (with_reducible first | exact HB.out | apply below_alloc | apply pw_below_drewN | apply below_drew1 | refine below_set ?_ GE273.out) | exact HB.out)⟩
      replace c16 := Bool.eq_false_iff.mpr c16
      subst c16
      have H1 : (ferrylaw04_GuestAgain.l0 kj4 a1 a2 a3 l0_3 (l0_3.length : Int) 0 l0_0 l0_1 a0_2 l0_3) = some r := by rw [if_neg (show ¬ (false = true) by decide)] at H; exact H
      clear H
      have H := H1
      clear H1
      have H' := Aside0.mk H
      clear H
      have hcz19_0 : wc.cell? ⟨gb273, 0, none⟩ = some (.slice A0_0 l0_0.length c0_0) := (blk_cell BK273.out 0).trans rfl
      have hcz19_1 : wc.cell? ⟨gb273, 1, none⟩ = some (.slice A0_1 l0_1.length c0_1) := (blk_cell BK273.out 1).trans rfl
      have hcz19_2 : wc.cell? ⟨gb273, 2, none⟩ = some (.int .u64 a0_2) := (blk_cell BK273.out 2).trans rfl
      have hcz19_3 : wc.cell? ⟨gb273, 3, none⟩ = some (.slice A0_3 l0_3.length c0_3) := (blk_cell BK273.out 3).trans rfl
      have hfz19_0 := blk_frozen BK273.out 0
      have hfz19_1 := blk_frozen BK273.out 1
      have hfz19_2 := blk_frozen BK273.out 2
      have hfz19_3 := blk_frozen BK273.out 3
      go_wp2
      go_loopg [27] kj4 (fun kq v27 w' => ∃ (x27_2 : Int), v27 = .int .i64 x27_2 ∧ Aside0 (ferrylaw04_GuestAgain.l0 kq a1 a2 a3 l0_3 (l0_3.length : Int) x27_2 l0_0 l0_1 a0_2 l0_3 = some r) ∧ Aside0 (kq ≤ kj4) ∧ Aside0 (w'.heap[gb273]? = some (.cells #[(.slice A0_0 l0_0.length c0_0), (.slice A0_1 l0_1.length c0_1), .int .u64 a0_2, (.slice A0_3 l0_3.length c0_3)] 29 (0, 0))) ∧ Aside0 (Below w.heap.size w w'))
      case atStart => exact ⟨(0), (by first | rfl | (simp; done) | (simp [*]; done)), H', ⟨Nat.le_refl _⟩, ⟨by (with_reducible repeat (first | refine blk_drewN ?_ _ | refine blk_drew ?_ | refine blk_alloc ?_ _)); exact BK273.out⟩, ⟨by repeat (first | (with_reducible first | exact HB.out | apply below_alloc | apply pw_below_drewN | apply below_drew1 | refine below_set ?_ GE273.out) | exact HB.out)⟩⟩
      case round =>
        clear H'
        try clear c1
        try clear p2
        try clear c4
        try clear c8
        try clear c10
        try clear c16
        try clear hcz10_0
        try clear hcz10_1
        try clear hcz10_2
        try clear hcz10_3
        try clear hcz12_0
        try clear hcz12_1
        try clear hcz12_2
        try clear hcz12_3
        try clear hcz14_0
        try clear hcz14_1
        try clear hcz14_2
        try clear hcz14_3
        try clear hcz19_0
        try clear hcz19_1
        try clear hcz19_2
        try clear hcz19_3
        try clear hfz10_0
        try clear hfz10_1
        try clear hfz10_2
        try clear hfz10_3
        try clear hfz12_0
        try clear hfz12_1
        try clear hfz12_2
        try clear hfz12_3
        try clear hfz14_0
        try clear hfz14_1
        try clear hfz14_2
        try clear hfz14_3
        try clear hfz19_0
        try clear hfz19_1
        try clear hfz19_2
        try clear hfz19_3
        try clear p2
        obtain ⟨x27_2, rfl, HA, HK2, BK273, HB⟩ := hrel
        cases gk with
        | zero => exact absurd HA.out (by simp [ferrylaw04_GuestAgain.l0])
        | succ k2 =>
          have H := HA.out
          clear HA
          simp only [ferrylaw04_GuestAgain.l0] at H
          by_cases c20 : x27_2 < (l0_3.length : Int)
          · rw [if_pos c20] at H
            have c20b0 : decide (x27_2 < (l0_3.length : Int)) = true := decide_eq_true c20
            clear c20
            by_cases c21 : 0 ≤ x27_2
            · rw [if_pos c21] at H
              have c21b0 : decide (0 ≤ x27_2) = true := decide_eq_true c21
              clear c21
              by_cases c22 : x27_2 < (l0_3.length : Int)
              · rw [if_pos c22] at H
                have c22b0 : decide (x27_2 < (l0_3.length : Int)) = true := decide_eq_true c22
                clear c22
                by_cases c23 : ((rd_T39 l0_3 x27_2).f0) ≥ a1
                · rw [if_pos c23] at H
                  have c23b0 : decide (a1 ≤ ((rd_T39 l0_3 x27_2).f0)) = true := decide_eq_true c23
                  clear c23
                  by_cases c24 : ((((rd_T39 l0_3 x27_2).f0) - a1) % 4294967296) < a2
                  · rw [if_pos c24] at H
                    have c24b0 : decide (((((rd_T39 l0_3 x27_2).f0) - a1) % 4294967296) < a2) = true := decide_eq_true c24
                    (try (have c24bs0 := c24b0; simp only [Int.add_emod_emod, Int.emod_add_emod, Int.sub_emod_emod, Int.emod_sub_emod] at c24bs0))
                    clear c24
                    replace H := Option.bind_eq_some_iff.mp H
                    obtain ⟨t279, A250, H⟩ := H
                    replace H : (some t279) = some r := H
                    have A25 := Aside0.mk A250
                    clear A250
                    obtain rfl := Option.some.inj H
                    have p277 : 0 ≤ (x27_2 : Int) := of_decide_eq_true (by first | (with_reducible assumption) | assumption)
                    have q277 : x27_2 < (l0_3.length : Int) := of_decide_eq_true (by first | (with_reducible assumption) | assumption)
                    obtain ⟨ad277, e277, hx277_0, hx277_1⟩ := at_T39 HR0_3.out x27_2 p277 q277
                    cases e277
                    replace hx277_0 := (HB.out.cell (World.block_lt_of_cell? w _ hx277_0)).trans hx277_0
                    replace hx277_1 := (HB.out.cell (World.block_lt_of_cell? w _ hx277_1)).trans hx277_1
                    replace p277 := eq_true p277
                    replace q277 := eq_true q277
                    go_wp2_with (first | ((with_reducible refine gate_dst (N := 10) rfl ?_); (try (refine gate_guard (by rfl) ?_; dsimp only)); refine box_event ?hg (N := 10) ?hd (cs := #[.int .u32 0, .int .i64 0]) (t := 39) ?hr ?_; (case hd => rfl); (case hg => rfl); (case hr => first | (go_simp; done) | (go_simp; rfl)); intro gb278 hg w26 hbox hb; have n0_ := Aside0.mk (blk_below (g := gb273) (o := .cells #[.slice A0_0 l0_0.length c0_0, .slice A0_1 l0_1.length c0_1, .int .u64 a0_2, .slice (some ad277) l0_3.length c0_3] 29 (0, 0)) (bT_ BK273.out) hb); have n1_ := Aside0.mk (below_step beT_ hb); have n2_ := Aside0.mk (hbox); have n3_ := Aside0.mk ((by rw [hg]; exact (below_size beT_) : w.heap.size ≤ gb278)); have n4_ := Aside0.mk ((by rw [hg]; exact (below_size beT_) : w.heap.size ≤ gb278)); have n5_ := Aside0.mk ((by rw [hg]; exact Nat.ne_of_lt (blk_lt (g := gb273) (o := .cells #[.slice A0_0 l0_0.length c0_0, .slice A0_1 l0_1.length c0_1, .int .u64 a0_2, .slice (some ad277) l0_3.length c0_3] 29 (0, 0)) (bT_ BK273.out)) : gb273 ≠ gb278)); have n6_ := Aside0.mk ((by rw [hg]; exact Nat.ne_of_gt (blk_lt (g := gb273) (o := .cells #[.slice A0_0 l0_0.length c0_0, .slice A0_1 l0_1.length c0_1, .int .u64 a0_2, .slice (some ad277) l0_3.length c0_3] 29 (0, 0)) (bT_ BK273.out)) : gb278 ≠ gb273)); clear BK273; clear HB; have BK273 := n0_; have HB := n1_; have BK278 := n2_; have GW278 := n3_; have GE278 := n4_; have NB273_278 := n5_; have NB278_273 := n6_; clear n0_ n1_ n2_ n3_ n4_ n5_ n6_; clear hb hbox hg; have hnb27 := NB278_273.out; have hnc27 := NB273_278.out; have hcz28_0 : w26.cell? ⟨gb278, 0, none⟩ = some (.int .u32 0) := (blk_cell BK278.out 0).trans rfl; have hcz28_1 : w26.cell? ⟨gb278, 1, none⟩ = some (.int .i64 0) := (blk_cell BK278.out 1).trans rfl; have hfz28_0 := blk_frozen BK278.out 0; have hfz28_1 := blk_frozen BK278.out 1) | ((with_reducible refine gate_callee (f := 10) rfl ?_); refine goesL_ (some 43) rfl rfl Try.func10 (by kernel_rfl) rfl #[] rfl (by (try simp only [List.map_toArray, List.map_cons, List.map_nil]); first | done | rfl | (simp only [List.length_drop, List.length_take]; rfl)) ?_; (with_reducible refine (ferrylaw04_awake.calls k2  t279 _ A25.out).mono ?_); rintro e w29 ⟨rfl, hb⟩; refine ⟨_, rfl, ?_⟩; have n0_ := Aside0.mk (blk_below (g := gb273) (o := .cells #[.slice A0_0 l0_0.length c0_0, .slice A0_1 l0_1.length c0_1, .int .u64 a0_2, .slice (some ad277) l0_3.length c0_3] 29 (0, 0)) (by (with_reducible repeat (first | refine blk_drewN ?_ _ | refine blk_drew ?_ | refine blk_alloc ?_ _)); refine blk_far ?_ NB273_278.out _; (with_reducible repeat (first | refine blk_drewN ?_ _ | refine blk_drew ?_ | refine blk_alloc ?_ _)); refine blk_far ?_ NB273_278.out _; (with_reducible repeat (first | refine blk_drewN ?_ _ | refine blk_drew ?_ | refine blk_alloc ?_ _)); exact BK273.out) hb); have n1_ := Aside0.mk (blk_below (g := gb278) (o := .cells #[.int .u32 ((rd_T39 l0_3 x27_2).f0), .int .i64 ((rd_T39 l0_3 x27_2).f1)] 39 (0, 0)) (by (with_reducible repeat (first | refine blk_drewN ?_ _ | refine blk_drew ?_ | refine blk_alloc ?_ _)); refine blk_put (cs := #[.int .u32 ((rd_T39 l0_3 x27_2).f0), .int .i64 0]) ?_ 1 _ rfl; (with_reducible repeat (first | refine blk_drewN ?_ _ | refine blk_drew ?_ | refine blk_alloc ?_ _)); refine blk_put (cs := #[.int .u32 0, .int .i64 0]) ?_ 0 _ rfl; (with_reducible repeat (first | refine blk_drewN ?_ _ | refine blk_drew ?_ | refine blk_alloc ?_ _)); exact BK278.out) hb); have n2_ := Aside0.mk (below_step beT_ hb); clear BK273; clear BK278; clear HB; have BK273 := n0_; have BK278 := n1_; have HB := n2_; clear n0_ n1_ n2_; (try clear hb); (try clear hb2); (try clear hk); (try clear hi)))
                    go_ret
                    exact ⟨by first | rfl | (simp [errW_none, errW_some] <;> rfl) | (simp [*, errW_none, errW_some] <;> rfl), by repeat (first | (with_reducible first | exact HB.out | apply below_alloc | apply pw_below_drewN | apply below_drew1 | refine below_set ?_ GE273.out | refine below_set ?_ GE278.out) | exact HB.out)⟩
                  rw [if_neg c24] at H
                  have c24b0 : decide (((((rd_T39 l0_3 x27_2).f0) - a1) % 4294967296) < a2) = false := decide_eq_false c24
                  (try (have c24bs0 := c24b0; simp only [Int.add_emod_emod, Int.emod_add_emod, Int.sub_emod_emod, Int.emod_sub_emod] at c24bs0))
                  clear c24
                  have H' := Aside0.mk H
                  clear H
                  have p277 : 0 ≤ (x27_2 : Int) := of_decide_eq_true (by first | (with_reducible assumption) | assumption)
                  have q277 : x27_2 < (l0_3.length : Int) := of_decide_eq_true (by first | (with_reducible assumption) | assumption)
                  obtain ⟨ad277, e277, hx277_0, hx277_1⟩ := at_T39 HR0_3.out x27_2 p277 q277
                  cases e277
                  replace hx277_0 := (HB.out.cell (World.block_lt_of_cell? w _ hx277_0)).trans hx277_0
                  replace hx277_1 := (HB.out.cell (World.block_lt_of_cell? w _ hx277_1)).trans hx277_1
                  replace p277 := eq_true p277
                  replace q277 := eq_true q277
                  go_wp2_with (first | ((with_reducible refine gate_dst (N := 10) rfl ?_); (try (refine gate_guard (by rfl) ?_; dsimp only)); refine box_event ?hg (N := 10) ?hd (cs := #[.int .u32 0, .int .i64 0]) (t := 39) ?hr ?_; (case hd => rfl); (case hg => rfl); (case hr => first | (go_simp; done) | (go_simp; rfl)); intro gb278 hg w30 hbox hb; have n0_ := Aside0.mk (blk_below (g := gb273) (o := .cells #[.slice A0_0 l0_0.length c0_0, .slice A0_1 l0_1.length c0_1, .int .u64 a0_2, .slice (some ad277) l0_3.length c0_3] 29 (0, 0)) (bT_ BK273.out) hb); have n1_ := Aside0.mk (below_step beT_ hb); have n2_ := Aside0.mk (hbox); have n3_ := Aside0.mk ((by rw [hg]; exact (below_size beT_) : w.heap.size ≤ gb278)); have n4_ := Aside0.mk ((by rw [hg]; exact (below_size beT_) : w.heap.size ≤ gb278)); have n5_ := Aside0.mk ((by rw [hg]; exact Nat.ne_of_lt (blk_lt (g := gb273) (o := .cells #[.slice A0_0 l0_0.length c0_0, .slice A0_1 l0_1.length c0_1, .int .u64 a0_2, .slice (some ad277) l0_3.length c0_3] 29 (0, 0)) (bT_ BK273.out)) : gb273 ≠ gb278)); have n6_ := Aside0.mk ((by rw [hg]; exact Nat.ne_of_gt (blk_lt (g := gb273) (o := .cells #[.slice A0_0 l0_0.length c0_0, .slice A0_1 l0_1.length c0_1, .int .u64 a0_2, .slice (some ad277) l0_3.length c0_3] 29 (0, 0)) (bT_ BK273.out)) : gb278 ≠ gb273)); clear BK273; clear HB; have BK273 := n0_; have HB := n1_; have BK278 := n2_; have GW278 := n3_; have GE278 := n4_; have NB273_278 := n5_; have NB278_273 := n6_; clear n0_ n1_ n2_ n3_ n4_ n5_ n6_; clear hb hbox hg; have hnb31 := NB278_273.out; have hnc31 := NB273_278.out; have hcz32_0 : w30.cell? ⟨gb278, 0, none⟩ = some (.int .u32 0) := (blk_cell BK278.out 0).trans rfl; have hcz32_1 : w30.cell? ⟨gb278, 1, none⟩ = some (.int .i64 0) := (blk_cell BK278.out 1).trans rfl; have hfz32_0 := blk_frozen BK278.out 0; have hfz32_1 := blk_frozen BK278.out 1))
                  go_roundg k2
                  case measure => have := HJ4.out; have := HK2.out; omega
                  case rel => exact ⟨(wrap64 (x27_2 + 1)), (by first | rfl | (simp; done) | (simp [*]; done)), H', ⟨by have := HJ4.out; have := HK2.out; omega⟩, ⟨by (with_reducible repeat (first | refine blk_drewN ?_ _ | refine blk_drew ?_ | refine blk_alloc ?_ _)); refine blk_far ?_ NB273_278.out _; (with_reducible repeat (first | refine blk_drewN ?_ _ | refine blk_drew ?_ | refine blk_alloc ?_ _)); refine blk_far ?_ NB273_278.out _; (with_reducible repeat (first | refine blk_drewN ?_ _ | refine blk_drew ?_ | refine blk_alloc ?_ _)); exact BK273.out⟩, ⟨by repeat (first | (with_reducible first | exact HB.out | apply below_alloc | apply pw_below_drewN | apply below_drew1 | refine below_set ?_ GE273.out | refine below_set ?_ GE278.out) | exact HB.out)⟩⟩
                rw [if_neg c23] at H
                have c23b0 : decide (a1 ≤ ((rd_T39 l0_3 x27_2).f0)) = false := decide_eq_false c23
                clear c23
                have H' := Aside0.mk H
                clear H
                have p277 : 0 ≤ (x27_2 : Int) := of_decide_eq_true (by first | (with_reducible assumption) | assumption)
                have q277 : x27_2 < (l0_3.length : Int) := of_decide_eq_true (by first | (with_reducible assumption) | assumption)
                obtain ⟨ad277, e277, hx277_0, hx277_1⟩ := at_T39 HR0_3.out x27_2 p277 q277
                cases e277
                replace hx277_0 := (HB.out.cell (World.block_lt_of_cell? w _ hx277_0)).trans hx277_0
                replace hx277_1 := (HB.out.cell (World.block_lt_of_cell? w _ hx277_1)).trans hx277_1
                replace p277 := eq_true p277
                replace q277 := eq_true q277
                go_wp2_with (first | ((with_reducible refine gate_dst (N := 10) rfl ?_); (try (refine gate_guard (by rfl) ?_; dsimp only)); refine box_event ?hg (N := 10) ?hd (cs := #[.int .u32 0, .int .i64 0]) (t := 39) ?hr ?_; (case hd => rfl); (case hg => rfl); (case hr => first | (go_simp; done) | (go_simp; rfl)); intro gb278 hg w33 hbox hb; have n0_ := Aside0.mk (blk_below (g := gb273) (o := .cells #[.slice A0_0 l0_0.length c0_0, .slice A0_1 l0_1.length c0_1, .int .u64 a0_2, .slice (some ad277) l0_3.length c0_3] 29 (0, 0)) (bT_ BK273.out) hb); have n1_ := Aside0.mk (below_step beT_ hb); have n2_ := Aside0.mk (hbox); have n3_ := Aside0.mk ((by rw [hg]; exact (below_size beT_) : w.heap.size ≤ gb278)); have n4_ := Aside0.mk ((by rw [hg]; exact (below_size beT_) : w.heap.size ≤ gb278)); have n5_ := Aside0.mk ((by rw [hg]; exact Nat.ne_of_lt (blk_lt (g := gb273) (o := .cells #[.slice A0_0 l0_0.length c0_0, .slice A0_1 l0_1.length c0_1, .int .u64 a0_2, .slice (some ad277) l0_3.length c0_3] 29 (0, 0)) (bT_ BK273.out)) : gb273 ≠ gb278)); have n6_ := Aside0.mk ((by rw [hg]; exact Nat.ne_of_gt (blk_lt (g := gb273) (o := .cells #[.slice A0_0 l0_0.length c0_0, .slice A0_1 l0_1.length c0_1, .int .u64 a0_2, .slice (some ad277) l0_3.length c0_3] 29 (0, 0)) (bT_ BK273.out)) : gb278 ≠ gb273)); clear BK273; clear HB; have BK273 := n0_; have HB := n1_; have BK278 := n2_; have GW278 := n3_; have GE278 := n4_; have NB273_278 := n5_; have NB278_273 := n6_; clear n0_ n1_ n2_ n3_ n4_ n5_ n6_; clear hb hbox hg; have hnb34 := NB278_273.out; have hnc34 := NB273_278.out; have hcz35_0 : w33.cell? ⟨gb278, 0, none⟩ = some (.int .u32 0) := (blk_cell BK278.out 0).trans rfl; have hcz35_1 : w33.cell? ⟨gb278, 1, none⟩ = some (.int .i64 0) := (blk_cell BK278.out 1).trans rfl; have hfz35_0 := blk_frozen BK278.out 0; have hfz35_1 := blk_frozen BK278.out 1))
                go_roundg k2
                case measure => have := HJ4.out; have := HK2.out; omega
                case rel => exact ⟨(wrap64 (x27_2 + 1)), (by first | rfl | (simp; done) | (simp [*]; done)), H', ⟨by have := HJ4.out; have := HK2.out; omega⟩, ⟨by (with_reducible repeat (first | refine blk_drewN ?_ _ | refine blk_drew ?_ | refine blk_alloc ?_ _)); refine blk_far ?_ NB273_278.out _; (with_reducible repeat (first | refine blk_drewN ?_ _ | refine blk_drew ?_ | refine blk_alloc ?_ _)); refine blk_far ?_ NB273_278.out _; (with_reducible repeat (first | refine blk_drewN ?_ _ | refine blk_drew ?_ | refine blk_alloc ?_ _)); exact BK273.out⟩, ⟨by repeat (first | (with_reducible first | exact HB.out | apply below_alloc | apply pw_below_drewN | apply below_drew1 | refine below_set ?_ GE273.out | refine below_set ?_ GE278.out) | exact HB.out)⟩⟩
              rw [if_neg c22] at H
              exact absurd H (by simp)
            rw [if_neg c21] at H
            exact absurd H (by simp)
          rw [if_neg c20] at H
          have c20b0 : decide (x27_2 < (l0_3.length : Int)) = false := decide_eq_false c20
          clear c20
          replace H := Option.bind_eq_some_iff.mp H
          obtain ⟨⟨t280, t283, t286, t287, t290⟩, A360, H⟩ := H
          replace H : (if t290 = 0 then ((guest_Unmap.f t280 t283 t286 t287 a1 a2).bind fun bt292 => (if bt292.2.2.2.2 = 0 then ((ferryref04_Same.f k2 bt292.1 bt292.2.1 bt292.2.2.1 bt292.2.2.2.1 l0_0 l0_1 a0_2 l0_3).bind fun t304 => (if t304 = true then (if (t287.length : Int) = (wrap64 ((l0_3.length : Int) + (wrap64 (a2)))) then ((ferrylaw04_awake.f k2).bind fun t305 => (some t305)) else (none)) else (none))) else (none))) else ((ferrylaw04_awake.f k2).bind fun t306 => (some t306))) = some r := H
          have A36 := Aside0.mk A360
          clear A360
          by_cases c37 : t290 = 0
          · rw [if_pos c37] at H
            have c37b0 : (t290 == 0) = true := beq_iff_eq.mpr c37
            have c37b1 : (t290 != 0) = false := bne_eq_false_iff_eq.mpr c37
            clear c37
            replace H := Option.bind_eq_some_iff.mp H
            obtain ⟨⟨t292, t295, t298, t299, t302⟩, A380, H⟩ := H
            replace H : (if t302 = 0 then ((ferryref04_Same.f k2 t292 t295 t298 t299 l0_0 l0_1 a0_2 l0_3).bind fun t304 => (if t304 = true then (if (t287.length : Int) = (wrap64 ((l0_3.length : Int) + (wrap64 (a2)))) then ((ferrylaw04_awake.f k2).bind fun t305 => (some t305)) else (none)) else (none))) else (none)) = some r := H
            have A38 := Aside0.mk A380
            clear A380
            by_cases c39 : t302 = 0
            · rw [if_pos c39] at H
              have c39b0 : (t302 == 0) = true := beq_iff_eq.mpr c39
              have c39b1 : (t302 != 0) = false := bne_eq_false_iff_eq.mpr c39
              clear c39
              replace H := Option.bind_eq_some_iff.mp H
              obtain ⟨t304, A400, H⟩ := H
              replace H : (if t304 = true then (if (t287.length : Int) = (wrap64 ((l0_3.length : Int) + (wrap64 (a2)))) then ((ferrylaw04_awake.f k2).bind fun t305 => (some t305)) else (none)) else (none)) = some r := H
              have A40 := Aside0.mk A400
              clear A400
              by_cases c41 : t304 = true
              · subst c41
                have H1 : (if (t287.length : Int) = (wrap64 ((l0_3.length : Int) + (wrap64 (a2)))) then ((ferrylaw04_awake.f k2).bind fun t305 => (some t305)) else (none)) = some r := by rw [if_pos rfl] at H; exact H
                clear H
                have H := H1
                clear H1
                by_cases c42 : (t287.length : Int) = (wrap64 ((l0_3.length : Int) + (wrap64 (a2))))
                · rw [if_pos c42] at H
                  have c42b0 : ((t287.length : Int) == (wrap64 ((l0_3.length : Int) + (wrap64 (a2))))) = true := beq_iff_eq.mpr c42
                  have c42b1 : ((t287.length : Int) != (wrap64 ((l0_3.length : Int) + (wrap64 (a2))))) = false := bne_eq_false_iff_eq.mpr c42
                  clear c42
                  replace H := Option.bind_eq_some_iff.mp H
                  obtain ⟨t305, A430, H⟩ := H
                  replace H : (some t305) = some r := H
                  have A43 := Aside0.mk A430
                  clear A430
                  obtain rfl := Option.some.inj H
                  have hcz44_0 : wr.cell? ⟨gb273, 0, none⟩ = some (.slice A0_0 l0_0.length c0_0) := (blk_cell BK273.out 0).trans rfl
                  have hcz44_1 : wr.cell? ⟨gb273, 1, none⟩ = some (.slice A0_1 l0_1.length c0_1) := (blk_cell BK273.out 1).trans rfl
                  have hcz44_2 : wr.cell? ⟨gb273, 2, none⟩ = some (.int .u64 a0_2) := (blk_cell BK273.out 2).trans rfl
                  have hcz44_3 : wr.cell? ⟨gb273, 3, none⟩ = some (.slice A0_3 l0_3.length c0_3) := (blk_cell BK273.out 3).trans rfl
                  have hfz44_0 := blk_frozen BK273.out 0
                  have hfz44_1 := blk_frozen BK273.out 1
                  have hfz44_2 := blk_frozen BK273.out 2
                  have hfz44_3 := blk_frozen BK273.out 3
                  go_wp2_with (first | ((with_reducible refine gate_callee (f := 12) rfl ?_); refine goesL_ (some 50) rfl rfl Try.func12 (by kernel_rfl) rfl #[.agg #[.slice A0_0 l0_0.length c0_0, .slice A0_1 l0_1.length c0_1, .int .u64 a0_2, .slice A0_3 l0_3.length c0_3], .int .u32 a1, .int .u32 a2, .int .i64 a3] rfl (by (try simp only [List.map_toArray, List.map_cons, List.map_nil]); first | done | rfl | (simp only [List.length_drop, List.length_take]; rfl)) ?_; (with_reducible refine (guest_Map.calls (fun k_ => k_ < w.heap.size) _ _ l0_0 (fun k_ => k_ < w.heap.size) _ _ l0_1 a0_2 (fun k_ => k_ < w.heap.size) _ _ l0_3 a1 a2 a3 t280 t283 t286 t287 t290 _ ?side1 ?side2 ?side3 A36.out).mono ?_); (case side1 => exact Kd.V_mk HC0_0.out (Kd.F_below (Kd.C_F k55_heap HR0_0.out) beT_)); (case side2 => exact Kd.V_mk HC0_1.out (Kd.F_below (Kd.C_F k60_heap HR0_1.out) beT_)); (case side3 => exact Kd.V_mk HC0_3.out (Kd.F_below (Kd.C_F k39_heap HR0_3.out) beT_)); rintro e w45 ⟨v281, v284, v288, rfl, ho0, ho1, ho2, hb⟩; refine ⟨_, rfl, ?_⟩; have n0_ := Aside0.mk (Kd.V_lower (Kd.V_mono (ok' := fun k_ => k_ ≠ gb273) ho0 (fun k_ hk_ => Or.elim hk_ (fun hs_ => Or.elim hs_ (fun hs_ => fun e_ => Nat.not_le.2 hs_ (by rw [e_]; exact GW273.out)) (fun hs_ => Or.elim hs_ (fun hs_ => fun e_ => Nat.not_le.2 hs_ (by rw [e_]; exact GW273.out)) (fun hs_ => fun e_ => Nat.not_le.2 hs_ (by rw [e_]; exact GW273.out)))) (fun hn_ => (Kd.freshB (g := gb273) (o := .cells #[.slice A0_0 l0_0.length c0_0, .slice A0_1 l0_1.length c0_1, .int .u64 a0_2, .slice A0_3 l0_3.length c0_3] 29 (0, 0)) (bT_ BK273.out) k_ hn_)))) (below_size beT_)); have n1_ := Aside0.mk (Kd.V_lower (Kd.V_mono (ok' := fun k_ => k_ ≠ gb273) ho1 (fun k_ hk_ => Or.elim hk_ (fun hs_ => Or.elim hs_ (fun hs_ => fun e_ => Nat.not_le.2 hs_ (by rw [e_]; exact GW273.out)) (fun hs_ => Or.elim hs_ (fun hs_ => fun e_ => Nat.not_le.2 hs_ (by rw [e_]; exact GW273.out)) (fun hs_ => fun e_ => Nat.not_le.2 hs_ (by rw [e_]; exact GW273.out)))) (fun hn_ => (Kd.freshB (g := gb273) (o := .cells #[.slice A0_0 l0_0.length c0_0, .slice A0_1 l0_1.length c0_1, .int .u64 a0_2, .slice A0_3 l0_3.length c0_3] 29 (0, 0)) (bT_ BK273.out) k_ hn_)))) (below_size beT_)); have n2_ := Aside0.mk (Kd.V_lower (Kd.V_mono (ok' := fun k_ => k_ ≠ gb273) ho2 (fun k_ hk_ => Or.elim hk_ (fun hs_ => Or.elim hs_ (fun hs_ => fun e_ => Nat.not_le.2 hs_ (by rw [e_]; exact GW273.out)) (fun hs_ => Or.elim hs_ (fun hs_ => fun e_ => Nat.not_le.2 hs_ (by rw [e_]; exact GW273.out)) (fun hs_ => fun e_ => Nat.not_le.2 hs_ (by rw [e_]; exact GW273.out)))) (fun hn_ => (Kd.freshB (g := gb273) (o := .cells #[.slice A0_0 l0_0.length c0_0, .slice A0_1 l0_1.length c0_1, .int .u64 a0_2, .slice A0_3 l0_3.length c0_3] 29 (0, 0)) (bT_ BK273.out) k_ hn_)))) (below_size beT_)); have n3_ := Aside0.mk (blk_below (g := gb273) (o := .cells #[.slice A0_0 l0_0.length c0_0, .slice A0_1 l0_1.length c0_1, .int .u64 a0_2, .slice A0_3 l0_3.length c0_3] 29 (0, 0)) (bT_ BK273.out) hb); have n4_ := Aside0.mk (below_step beT_ hb); clear BK273; clear HB; have HO282 := n0_; have HO285 := n1_; have HO289 := n2_; have BK273 := n3_; have HB := n4_; clear n0_ n1_ n2_ n3_ n4_; (try clear hb); (try clear hb2); (try clear hk); (try clear hi); (try clear ho0); (try clear ho1); (try clear ho2)) | ((with_reducible refine gate_dst (N := 11) rfl ?_); (try (refine gate_guard (by rfl) ?_; dsimp only)); refine box_event ?hg (N := 11) ?hd (cs := #[.slice none 0 0, .slice none 0 0, .int .u64 0, .slice none 0 0]) (t := 29) ?hr ?_; (case hd => rfl); (case hg => rfl); (case hr => first | (go_simp; done) | (go_simp; rfl)); intro gb291 hg w46 hbox hb; have n0_ := Aside0.mk (Kd.V_below (Kd.V_elderB (vT_ HO282.out) gb291 (Nat.le_of_eq hg.symm)) hb); have n1_ := Aside0.mk (Kd.V_below (Kd.V_elderB (vT_ HO285.out) gb291 (Nat.le_of_eq hg.symm)) hb); have n2_ := Aside0.mk (Kd.V_below (Kd.V_elderB (vT_ HO289.out) gb291 (Nat.le_of_eq hg.symm)) hb); have n3_ := Aside0.mk (blk_below (g := gb273) (o := .cells #[.slice A0_0 l0_0.length c0_0, .slice A0_1 l0_1.length c0_1, .int .u64 a0_2, .slice A0_3 l0_3.length c0_3] 29 (0, 0)) (bT_ BK273.out) hb); have n4_ := Aside0.mk (below_step beT_ hb); have n5_ := Aside0.mk (hbox); have n6_ := Aside0.mk ((by rw [hg]; exact (below_size beT_) : w.heap.size ≤ gb291)); have n7_ := Aside0.mk ((by rw [hg]; exact (below_size beT_) : w.heap.size ≤ gb291)); have n8_ := Aside0.mk ((by rw [hg]; exact Nat.ne_of_lt (blk_lt (g := gb273) (o := .cells #[.slice A0_0 l0_0.length c0_0, .slice A0_1 l0_1.length c0_1, .int .u64 a0_2, .slice A0_3 l0_3.length c0_3] 29 (0, 0)) (bT_ BK273.out)) : gb273 ≠ gb291)); have n9_ := Aside0.mk ((by rw [hg]; exact Nat.ne_of_gt (blk_lt (g := gb273) (o := .cells #[.slice A0_0 l0_0.length c0_0, .slice A0_1 l0_1.length c0_1, .int .u64 a0_2, .slice A0_3 l0_3.length c0_3] 29 (0, 0)) (bT_ BK273.out)) : gb291 ≠ gb273)); clear HO282; clear HO285; clear HO289; clear BK273; clear HB; have HO282 := n0_; have HO285 := n1_; have HO289 := n2_; have BK273 := n3_; have HB := n4_; have BK291 := n5_; have GW291 := n6_; have GE291 := n7_; have NB273_291 := n8_; have NB291_273 := n9_; clear n0_ n1_ n2_ n3_ n4_ n5_ n6_ n7_ n8_ n9_; clear hb hbox hg; obtain ⟨Ao47, co47, eo47⟩ := Kd.V_slice HO282.out; subst eo47; have hnb48 := NB291_273.out; have hnc48 := NB273_291.out; have hcz49_0 : w46.cell? ⟨gb291, 0, none⟩ = some (.slice none 0 0) := (blk_cell BK291.out 0).trans rfl; have hcz49_1 : w46.cell? ⟨gb291, 1, none⟩ = some (.slice none 0 0) := (blk_cell BK291.out 1).trans rfl; have hcz49_2 : w46.cell? ⟨gb291, 2, none⟩ = some (.int .u64 0) := (blk_cell BK291.out 2).trans rfl; have hcz49_3 : w46.cell? ⟨gb291, 3, none⟩ = some (.slice none 0 0) := (blk_cell BK291.out 3).trans rfl; have hfz49_0 := blk_frozen BK291.out 0; have hfz49_1 := blk_frozen BK291.out 1; have hfz49_2 := blk_frozen BK291.out 2; have hfz49_3 := blk_frozen BK291.out 3; obtain ⟨Ao50, co50, eo50⟩ := Kd.V_slice HO285.out; subst eo50; obtain ⟨Ao51, co51, eo51⟩ := Kd.V_slice HO289.out; subst eo51) | ((with_reducible refine gate_store (t := 29) (p := 11) rfl ?_); refine store_event (t := 29) (p := 11) (v := ?vo_w52) (w1 := ((((w46.setCell ⟨gb291, 0, none⟩ (.slice Ao47 t280.length co47)).setCell ⟨gb291, 1, none⟩ (.slice Ao50 t283.length co50)).setCell ⟨gb291, 2, none⟩ (.int .u64 t286)).setCell ⟨gb291, 3, none⟩ (.slice Ao51 t287.length co51))) ?hg ?ho ?hn ?hr ?_; (case ho => rfl); (case hg => rfl); (case hn => rfl); (case hr => first | (go_simp; done) | (go_simp; rfl)); intro w52 hw; have n0_ : Aside0 (Kd.V k55 55 w52 w.heap.size (fun k_ => k_ ≠ gb273 ∧ k_ ≠ gb291) (.slice Ao47 t280.length co47) t280) := ⟨(by rw [hw]; exact (by (with_reducible repeat (first | apply Kd.V_alloc | apply Kd.V_drewN | apply Kd.V_drew)); exact Kd.V_mono (Kd.V_far (p := ⟨gb291, 3, none⟩) (Kd.V_far (p := ⟨gb291, 2, none⟩) (Kd.V_far (p := ⟨gb291, 1, none⟩) (Kd.V_far (p := ⟨gb291, 0, none⟩) (Kd.V_mono HO282.out (fun k_ hk => (⟨hk, by first | exact hk.2 | exact hk.2.1 | exact hk.2.2⟩ : _ ∧ k_ ≠ gb291))) (fun _ hk => hk.2) (.slice Ao47 t280.length co47)) (fun _ hk => hk.2) (.slice Ao50 t283.length co50)) (fun _ hk => hk.2) (.int .u64 t286)) (fun _ hk => hk.2) (.slice Ao51 t287.length co51)) (fun _ hk => ⟨hk.1.1, hk.1.2⟩)))⟩; have n1_ : Aside0 (Kd.V k60 60 w52 w.heap.size (fun k_ => k_ ≠ gb273 ∧ k_ ≠ gb291) (.slice Ao50 t283.length co50) t283) := ⟨(by rw [hw]; exact (by (with_reducible repeat (first | apply Kd.V_alloc | apply Kd.V_drewN | apply Kd.V_drew)); exact Kd.V_mono (Kd.V_far (p := ⟨gb291, 3, none⟩) (Kd.V_far (p := ⟨gb291, 2, none⟩) (Kd.V_far (p := ⟨gb291, 1, none⟩) (Kd.V_far (p := ⟨gb291, 0, none⟩) (Kd.V_mono HO285.out (fun k_ hk => (⟨hk, by first | exact hk.2 | exact hk.2.1 | exact hk.2.2⟩ : _ ∧ k_ ≠ gb291))) (fun _ hk => hk.2) (.slice Ao47 t280.length co47)) (fun _ hk => hk.2) (.slice Ao50 t283.length co50)) (fun _ hk => hk.2) (.int .u64 t286)) (fun _ hk => hk.2) (.slice Ao51 t287.length co51)) (fun _ hk => ⟨hk.1.1, hk.1.2⟩)))⟩; have n2_ : Aside0 (Kd.V k39 39 w52 w.heap.size (fun k_ => k_ ≠ gb273 ∧ k_ ≠ gb291) (.slice Ao51 t287.length co51) t287) := ⟨(by rw [hw]; exact (by (with_reducible repeat (first | apply Kd.V_alloc | apply Kd.V_drewN | apply Kd.V_drew)); exact Kd.V_mono (Kd.V_far (p := ⟨gb291, 3, none⟩) (Kd.V_far (p := ⟨gb291, 2, none⟩) (Kd.V_far (p := ⟨gb291, 1, none⟩) (Kd.V_far (p := ⟨gb291, 0, none⟩) (Kd.V_mono HO289.out (fun k_ hk => (⟨hk, by first | exact hk.2 | exact hk.2.1 | exact hk.2.2⟩ : _ ∧ k_ ≠ gb291))) (fun _ hk => hk.2) (.slice Ao47 t280.length co47)) (fun _ hk => hk.2) (.slice Ao50 t283.length co50)) (fun _ hk => hk.2) (.int .u64 t286)) (fun _ hk => hk.2) (.slice Ao51 t287.length co51)) (fun _ hk => ⟨hk.1.1, hk.1.2⟩)))⟩; have n3_ : Aside0 (w52.heap[gb273]? = some (.cells #[.slice A0_0 l0_0.length c0_0, .slice A0_1 l0_1.length c0_1, .int .u64 a0_2, .slice A0_3 l0_3.length c0_3] 29 (0, 0))) := ⟨(by rw [hw]; exact (by (with_reducible repeat (first | refine blk_drewN ?_ _ | refine blk_drew ?_ | refine blk_alloc ?_ _)); refine blk_far ?_ NB273_291.out _; (with_reducible repeat (first | refine blk_drewN ?_ _ | refine blk_drew ?_ | refine blk_alloc ?_ _)); refine blk_far ?_ NB273_291.out _; (with_reducible repeat (first | refine blk_drewN ?_ _ | refine blk_drew ?_ | refine blk_alloc ?_ _)); refine blk_far ?_ NB273_291.out _; (with_reducible repeat (first | refine blk_drewN ?_ _ | refine blk_drew ?_ | refine blk_alloc ?_ _)); refine blk_far ?_ NB273_291.out _; (with_reducible repeat (first | refine blk_drewN ?_ _ | refine blk_drew ?_ | refine blk_alloc ?_ _)); exact BK273.out))⟩; have n4_ : Aside0 (w52.heap[gb291]? = some (.cells #[.slice Ao47 t280.length co47, .slice Ao50 t283.length co50, .int .u64 t286, .slice Ao51 t287.length co51] 29 (0, 0))) := ⟨(by rw [hw]; exact (by (with_reducible repeat (first | refine blk_drewN ?_ _ | refine blk_drew ?_ | refine blk_alloc ?_ _)); refine blk_put (cs := #[.slice Ao47 t280.length co47, .slice Ao50 t283.length co50, .int .u64 t286, .slice none 0 0]) ?_ 3 _ rfl; (with_reducible repeat (first | refine blk_drewN ?_ _ | refine blk_drew ?_ | refine blk_alloc ?_ _)); refine blk_put (cs := #[.slice Ao47 t280.length co47, .slice Ao50 t283.length co50, .int .u64 0, .slice none 0 0]) ?_ 2 _ rfl; (with_reducible repeat (first | refine blk_drewN ?_ _ | refine blk_drew ?_ | refine blk_alloc ?_ _)); refine blk_put (cs := #[.slice Ao47 t280.length co47, .slice none 0 0, .int .u64 0, .slice none 0 0]) ?_ 1 _ rfl; (with_reducible repeat (first | refine blk_drewN ?_ _ | refine blk_drew ?_ | refine blk_alloc ?_ _)); refine blk_put (cs := #[.slice none 0 0, .slice none 0 0, .int .u64 0, .slice none 0 0]) ?_ 0 _ rfl; (with_reducible repeat (first | refine blk_drewN ?_ _ | refine blk_drew ?_ | refine blk_alloc ?_ _)); exact BK291.out))⟩; have n5_ : Aside0 (Below w.heap.size w w52) := ⟨(by rw [hw]; exact beT_)⟩; clear hw; clear HO282; clear HO285; clear HO289; clear BK273; clear BK291; clear HB; have HO282 := n0_; have HO285 := n1_; have HO289 := n2_; have BK273 := n3_; have BK291 := n4_; have HB := n5_; clear n0_ n1_ n2_ n3_ n4_ n5_; have hcz53_0 : w52.cell? ⟨gb291, 0, none⟩ = some (.slice Ao47 t280.length co47) := (blk_cell BK291.out 0).trans rfl; have hcz53_1 : w52.cell? ⟨gb291, 1, none⟩ = some (.slice Ao50 t283.length co50) := (blk_cell BK291.out 1).trans rfl; have hcz53_2 : w52.cell? ⟨gb291, 2, none⟩ = some (.int .u64 t286) := (blk_cell BK291.out 2).trans rfl; have hcz53_3 : w52.cell? ⟨gb291, 3, none⟩ = some (.slice Ao51 t287.length co51) := (blk_cell BK291.out 3).trans rfl; have hfz53_0 := blk_frozen BK291.out 0; have hfz53_1 := blk_frozen BK291.out 1; have hfz53_2 := blk_frozen BK291.out 2; have hfz53_3 := blk_frozen BK291.out 3) | ((with_reducible refine gate_callee (f := 11) rfl ?_); refine goesL_ (some 60) rfl rfl Try.func11 (by kernel_rfl) rfl #[.agg #[.slice Ao47 t280.length co47, .slice Ao50 t283.length co50, .int .u64 t286, .slice Ao51 t287.length co51], .int .u32 a1, .int .u32 a2] rfl (by (try simp only [List.map_toArray, List.map_cons, List.map_nil]); first | done | rfl | (simp only [List.length_drop, List.length_take]; rfl)) ?_; (with_reducible refine (guest_Unmap.calls (fun k_ => (k_ ≠ gb273 ∧ k_ ≠ gb291)) _ _ t280 (fun k_ => (k_ ≠ gb273 ∧ k_ ≠ gb291)) _ _ t283 t286 (fun k_ => (k_ ≠ gb273 ∧ k_ ≠ gb291)) _ _ t287 a1 a2 t292 t295 t298 t299 t302 _ ?side1 ?side2 ?side3 A38.out).mono ?_); (case side1 => exact HO282.out); (case side2 => exact HO285.out); (case side3 => exact HO289.out); rintro e w54 ⟨v293, v296, v300, rfl, ho0, ho1, ho2, hb⟩; refine ⟨_, rfl, ?_⟩; have n0_ := Aside0.mk (Kd.V_below (vT_ HO282.out) hb); have n1_ := Aside0.mk (Kd.V_below (vT_ HO285.out) hb); have n2_ := Aside0.mk (Kd.V_below (vT_ HO289.out) hb); have n3_ := Aside0.mk (Kd.V_lower (Kd.V_mono (ok' := fun k_ => k_ ≠ gb273 ∧ k_ ≠ gb291) ho0 (fun k_ hk_ => ⟨Or.elim hk_ (fun hs_ => Or.elim hs_ (fun hs_ => hs_.1) (fun hs_ => Or.elim hs_ (fun hs_ => hs_.1) (fun hs_ => hs_.1))) (fun hn_ => (Kd.freshB (g := gb273) (o := .cells #[.slice A0_0 l0_0.length c0_0, .slice A0_1 l0_1.length c0_1, .int .u64 a0_2, .slice A0_3 l0_3.length c0_3] 29 (0, 0)) (bT_ BK273.out) k_ hn_)), Or.elim hk_ (fun hs_ => Or.elim hs_ (fun hs_ => hs_.2) (fun hs_ => Or.elim hs_ (fun hs_ => hs_.2) (fun hs_ => hs_.2))) (fun hn_ => (Kd.freshB (g := gb291) (o := .cells #[.slice Ao47 t280.length co47, .slice Ao50 t283.length co50, .int .u64 t286, .slice Ao51 t287.length co51] 29 (0, 0)) (bT_ BK291.out) k_ hn_))⟩)) (below_size beT_)); have n4_ := Aside0.mk (Kd.V_lower (Kd.V_mono (ok' := fun k_ => k_ ≠ gb273 ∧ k_ ≠ gb291) ho1 (fun k_ hk_ => ⟨Or.elim hk_ (fun hs_ => Or.elim hs_ (fun hs_ => hs_.1) (fun hs_ => Or.elim hs_ (fun hs_ => hs_.1) (fun hs_ => hs_.1))) (fun hn_ => (Kd.freshB (g := gb273) (o := .cells #[.slice A0_0 l0_0.length c0_0, .slice A0_1 l0_1.length c0_1, .int .u64 a0_2, .slice A0_3 l0_3.length c0_3] 29 (0, 0)) (bT_ BK273.out) k_ hn_)), Or.elim hk_ (fun hs_ => Or.elim hs_ (fun hs_ => hs_.2) (fun hs_ => Or.elim hs_ (fun hs_ => hs_.2) (fun hs_ => hs_.2))) (fun hn_ => (Kd.freshB (g := gb291) (o := .cells #[.slice Ao47 t280.length co47, .slice Ao50 t283.length co50, .int .u64 t286, .slice Ao51 t287.length co51] 29 (0, 0)) (bT_ BK291.out) k_ hn_))⟩)) (below_size beT_)); have n5_ := Aside0.mk (Kd.V_lower (Kd.V_mono (ok' := fun k_ => k_ ≠ gb273 ∧ k_ ≠ gb291) ho2 (fun k_ hk_ => ⟨Or.elim hk_ (fun hs_ => Or.elim hs_ (fun hs_ => hs_.1) (fun hs_ => Or.elim hs_ (fun hs_ => hs_.1) (fun hs_ => hs_.1))) (fun hn_ => (Kd.freshB (g := gb273) (o := .cells #[.slice A0_0 l0_0.length c0_0, .slice A0_1 l0_1.length c0_1, .int .u64 a0_2, .slice A0_3 l0_3.length c0_3] 29 (0, 0)) (bT_ BK273.out) k_ hn_)), Or.elim hk_ (fun hs_ => Or.elim hs_ (fun hs_ => hs_.2) (fun hs_ => Or.elim hs_ (fun hs_ => hs_.2) (fun hs_ => hs_.2))) (fun hn_ => (Kd.freshB (g := gb291) (o := .cells #[.slice Ao47 t280.length co47, .slice Ao50 t283.length co50, .int .u64 t286, .slice Ao51 t287.length co51] 29 (0, 0)) (bT_ BK291.out) k_ hn_))⟩)) (below_size beT_)); have n6_ := Aside0.mk (blk_below (g := gb273) (o := .cells #[.slice A0_0 l0_0.length c0_0, .slice A0_1 l0_1.length c0_1, .int .u64 a0_2, .slice A0_3 l0_3.length c0_3] 29 (0, 0)) (bT_ BK273.out) hb); have n7_ := Aside0.mk (blk_below (g := gb291) (o := .cells #[.slice Ao47 t280.length co47, .slice Ao50 t283.length co50, .int .u64 t286, .slice Ao51 t287.length co51] 29 (0, 0)) (bT_ BK291.out) hb); have n8_ := Aside0.mk (below_step beT_ hb); clear HO282; clear HO285; clear HO289; clear BK273; clear BK291; clear HB; have HO282 := n0_; have HO285 := n1_; have HO289 := n2_; have HO294 := n3_; have HO297 := n4_; have HO301 := n5_; have BK273 := n6_; have BK291 := n7_; have HB := n8_; clear n0_ n1_ n2_ n3_ n4_ n5_ n6_ n7_ n8_; (try clear hb); (try clear hb2); (try clear hk); (try clear hi); (try clear ho0); (try clear ho1); (try clear ho2)) | ((with_reducible refine gate_dst (N := 13) rfl ?_); (try (refine gate_guard (by rfl) ?_; dsimp only)); refine box_event ?hg (N := 13) ?hd (cs := #[.slice none 0 0, .slice none 0 0, .int .u64 0, .slice none 0 0]) (t := 29) ?hr ?_; (case hd => rfl); (case hg => rfl); (case hr => first | (go_simp; done) | (go_simp; rfl)); intro gb303 hg w55 hbox hb; have n0_ := Aside0.mk (Kd.V_below (Kd.V_elderB (vT_ HO282.out) gb303 (Nat.le_of_eq hg.symm)) hb); have n1_ := Aside0.mk (Kd.V_below (Kd.V_elderB (vT_ HO285.out) gb303 (Nat.le_of_eq hg.symm)) hb); have n2_ := Aside0.mk (Kd.V_below (Kd.V_elderB (vT_ HO289.out) gb303 (Nat.le_of_eq hg.symm)) hb); have n3_ := Aside0.mk (Kd.V_below (Kd.V_elderB (vT_ HO294.out) gb303 (Nat.le_of_eq hg.symm)) hb); have n4_ := Aside0.mk (Kd.V_below (Kd.V_elderB (vT_ HO297.out) gb303 (Nat.le_of_eq hg.symm)) hb); have n5_ := Aside0.mk (Kd.V_below (Kd.V_elderB (vT_ HO301.out) gb303 (Nat.le_of_eq hg.symm)) hb); have n6_ := Aside0.mk (blk_below (g := gb273) (o := .cells #[.slice A0_0 l0_0.length c0_0, .slice A0_1 l0_1.length c0_1, .int .u64 a0_2, .slice A0_3 l0_3.length c0_3] 29 (0, 0)) (bT_ BK273.out) hb); have n7_ := Aside0.mk (blk_below (g := gb291) (o := .cells #[.slice Ao47 t280.length co47, .slice Ao50 t283.length co50, .int .u64 t286, .slice Ao51 t287.length co51] 29 (0, 0)) (bT_ BK291.out) hb); have n8_ := Aside0.mk (below_step beT_ hb); have n9_ := Aside0.mk (hbox); have n10_ := Aside0.mk ((by rw [hg]; exact (below_size beT_) : w.heap.size ≤ gb303)); have n11_ := Aside0.mk ((by rw [hg]; exact (below_size beT_) : w.heap.size ≤ gb303)); have n12_ := Aside0.mk ((by rw [hg]; exact Nat.ne_of_lt (blk_lt (g := gb273) (o := .cells #[.slice A0_0 l0_0.length c0_0, .slice A0_1 l0_1.length c0_1, .int .u64 a0_2, .slice A0_3 l0_3.length c0_3] 29 (0, 0)) (bT_ BK273.out)) : gb273 ≠ gb303)); have n13_ := Aside0.mk ((by rw [hg]; exact Nat.ne_of_gt (blk_lt (g := gb273) (o := .cells #[.slice A0_0 l0_0.length c0_0, .slice A0_1 l0_1.length c0_1, .int .u64 a0_2, .slice A0_3 l0_3.length c0_3] 29 (0, 0)) (bT_ BK273.out)) : gb303 ≠ gb273)); have n14_ := Aside0.mk ((by rw [hg]; exact Nat.ne_of_lt (blk_lt (g := gb291) (o := .cells #[.slice Ao47 t280.length co47, .slice Ao50 t283.length co50, .int .u64 t286, .slice Ao51 t287.length co51] 29 (0, 0)) (bT_ BK291.out)) : gb291 ≠ gb303)); have n15_ := Aside0.mk ((by rw [hg]; exact Nat.ne_of_gt (blk_lt (g := gb291) (o := .cells #[.slice Ao47 t280.length co47, .slice Ao50 t283.length co50, .int .u64 t286, .slice Ao51 t287.length co51] 29 (0, 0)) (bT_ BK291.out)) : gb303 ≠ gb291)); clear HO282; clear HO285; clear HO289; clear HO294; clear HO297; clear HO301; clear BK273; clear BK291; clear HB; have HO282 := n0_; have HO285 := n1_; have HO289 := n2_; have HO294 := n3_; have HO297 := n4_; have HO301 := n5_; have BK273 := n6_; have BK291 := n7_; have HB := n8_; have BK303 := n9_; have GW303 := n10_; have GE303 := n11_; have NB273_303 := n12_; have NB303_273 := n13_; have NB291_303 := n14_; have NB303_291 := n15_; clear n0_ n1_ n2_ n3_ n4_ n5_ n6_ n7_ n8_ n9_ n10_ n11_ n12_ n13_ n14_ n15_; clear hb hbox hg; obtain ⟨Ao56, co56, eo56⟩ := Kd.V_slice HO294.out; subst eo56; have hnb57 := NB303_273.out; have hnc57 := NB273_303.out; have hnb58 := NB303_291.out; have hnc58 := NB291_303.out; have hcz59_0 : w55.cell? ⟨gb303, 0, none⟩ = some (.slice none 0 0) := (blk_cell BK303.out 0).trans rfl; have hcz59_1 : w55.cell? ⟨gb303, 1, none⟩ = some (.slice none 0 0) := (blk_cell BK303.out 1).trans rfl; have hcz59_2 : w55.cell? ⟨gb303, 2, none⟩ = some (.int .u64 0) := (blk_cell BK303.out 2).trans rfl; have hcz59_3 : w55.cell? ⟨gb303, 3, none⟩ = some (.slice none 0 0) := (blk_cell BK303.out 3).trans rfl; have hfz59_0 := blk_frozen BK303.out 0; have hfz59_1 := blk_frozen BK303.out 1; have hfz59_2 := blk_frozen BK303.out 2; have hfz59_3 := blk_frozen BK303.out 3; obtain ⟨Ao60, co60, eo60⟩ := Kd.V_slice HO297.out; subst eo60; obtain ⟨Ao61, co61, eo61⟩ := Kd.V_slice HO301.out; subst eo61; have hcz62_0 : w55.cell? ⟨gb273, 0, none⟩ = some (.slice A0_0 l0_0.length c0_0) := (blk_cell BK273.out 0).trans rfl; have hcz62_1 : w55.cell? ⟨gb273, 1, none⟩ = some (.slice A0_1 l0_1.length c0_1) := (blk_cell BK273.out 1).trans rfl; have hcz62_2 : w55.cell? ⟨gb273, 2, none⟩ = some (.int .u64 a0_2) := (blk_cell BK273.out 2).trans rfl; have hcz62_3 : w55.cell? ⟨gb273, 3, none⟩ = some (.slice A0_3 l0_3.length c0_3) := (blk_cell BK273.out 3).trans rfl; have hfz62_0 := blk_frozen BK273.out 0; have hfz62_1 := blk_frozen BK273.out 1; have hfz62_2 := blk_frozen BK273.out 2; have hfz62_3 := blk_frozen BK273.out 3) | (go_at_call 13; (with_reducible refine (ferryref04_Same.calls k2 _ _ t292 _ _ t295 t298 _ _ t299 _ _ l0_0 _ _ l0_1 a0_2 _ _ l0_3 true _ ?side1 ?side2 ?side3 ?side4 ?side5 ?side6 ?side7 ?side8 ?side9 ?side10 ?side11 ?side12 A40.out).mono ?_); (case side1 => refine (Kd.V_reads' (e := 55) (base := w.heap.size) (ok := fun k_ => ((k_ ≠ gb273 ∧ k_ ≠ gb291) ∧ k_ ≠ gb303)) (n := t292.length) (c := co56) ?_).2.2; exact (by (with_reducible repeat (first | apply Kd.V_alloc | apply Kd.V_drewN | apply Kd.V_drew)); exact (Kd.V_mono (Kd.V_far (p := ⟨gb303, 3, none⟩) (Kd.V_far (p := ⟨gb303, 2, none⟩) (Kd.V_far (p := ⟨gb303, 1, none⟩) (Kd.V_far (p := ⟨gb303, 0, none⟩) (Kd.V_mono HO294.out (fun k_ hk => (⟨hk, by first | exact hk.2 | exact hk.2.1 | exact hk.2.2⟩ : _ ∧ k_ ≠ gb303))) (fun _ hk => hk.2) (.slice Ao56 t292.length co56)) (fun _ hk => hk.2) (.slice Ao60 t295.length co60)) (fun _ hk => hk.2) (.int .u64 t298)) (fun _ hk => hk.2) (.slice Ao61 t299.length co61)) (fun _ h_ => h_.1)))); (case side2 => exact (Kd.V_reads' HO294.out).2.1); (case side3 => refine (Kd.V_reads' (e := 60) (base := w.heap.size) (ok := fun k_ => ((k_ ≠ gb273 ∧ k_ ≠ gb291) ∧ k_ ≠ gb303)) (n := t295.length) (c := co60) ?_).2.2; exact (by (with_reducible repeat (first | apply Kd.V_alloc | apply Kd.V_drewN | apply Kd.V_drew)); exact (Kd.V_mono (Kd.V_far (p := ⟨gb303, 3, none⟩) (Kd.V_far (p := ⟨gb303, 2, none⟩) (Kd.V_far (p := ⟨gb303, 1, none⟩) (Kd.V_far (p := ⟨gb303, 0, none⟩) (Kd.V_mono HO297.out (fun k_ hk => (⟨hk, by first | exact hk.2 | exact hk.2.1 | exact hk.2.2⟩ : _ ∧ k_ ≠ gb303))) (fun _ hk => hk.2) (.slice Ao56 t292.length co56)) (fun _ hk => hk.2) (.slice Ao60 t295.length co60)) (fun _ hk => hk.2) (.int .u64 t298)) (fun _ hk => hk.2) (.slice Ao61 t299.length co61)) (fun _ h_ => h_.1)))); (case side4 => exact (Kd.V_reads' HO297.out).2.1); (case side5 => refine (Kd.V_reads' (e := 39) (base := w.heap.size) (ok := fun k_ => ((k_ ≠ gb273 ∧ k_ ≠ gb291) ∧ k_ ≠ gb303)) (n := t299.length) (c := co61) ?_).2.2; exact (by (with_reducible repeat (first | apply Kd.V_alloc | apply Kd.V_drewN | apply Kd.V_drew)); exact (Kd.V_mono (Kd.V_far (p := ⟨gb303, 3, none⟩) (Kd.V_far (p := ⟨gb303, 2, none⟩) (Kd.V_far (p := ⟨gb303, 1, none⟩) (Kd.V_far (p := ⟨gb303, 0, none⟩) (Kd.V_mono HO301.out (fun k_ hk => (⟨hk, by first | exact hk.2 | exact hk.2.1 | exact hk.2.2⟩ : _ ∧ k_ ≠ gb303))) (fun _ hk => hk.2) (.slice Ao56 t292.length co56)) (fun _ hk => hk.2) (.slice Ao60 t295.length co60)) (fun _ hk => hk.2) (.int .u64 t298)) (fun _ hk => hk.2) (.slice Ao61 t299.length co61)) (fun _ h_ => h_.1)))); (case side6 => exact (Kd.V_reads' HO301.out).2.1); (case side7 => exact Kd.C_below HR0_0.out beT_); (case side8 => exact HC0_0.out); (case side9 => exact Kd.C_below HR0_1.out beT_); (case side10 => exact HC0_1.out); (case side11 => exact Kd.C_below HR0_3.out beT_); (case side12 => exact HC0_3.out); rintro e w63 ⟨rfl, hb⟩; have n0_ := Aside0.mk (Kd.V_below (by (with_reducible repeat (first | apply Kd.V_alloc | apply Kd.V_drewN | apply Kd.V_drew)); exact (Kd.V_mono (Kd.V_far (p := ⟨gb303, 3, none⟩) (Kd.V_far (p := ⟨gb303, 2, none⟩) (Kd.V_far (p := ⟨gb303, 1, none⟩) (Kd.V_far (p := ⟨gb303, 0, none⟩) (Kd.V_mono HO282.out (fun k_ hk => (⟨hk, by first | exact hk.2 | exact hk.2.1 | exact hk.2.2⟩ : _ ∧ k_ ≠ gb303))) (fun _ hk => hk.2) (.slice Ao56 t292.length co56)) (fun _ hk => hk.2) (.slice Ao60 t295.length co60)) (fun _ hk => hk.2) (.int .u64 t298)) (fun _ hk => hk.2) (.slice Ao61 t299.length co61)) (fun _ h_ => h_.1))) hb); have n1_ := Aside0.mk (Kd.V_below (by (with_reducible repeat (first | apply Kd.V_alloc | apply Kd.V_drewN | apply Kd.V_drew)); exact (Kd.V_mono (Kd.V_far (p := ⟨gb303, 3, none⟩) (Kd.V_far (p := ⟨gb303, 2, none⟩) (Kd.V_far (p := ⟨gb303, 1, none⟩) (Kd.V_far (p := ⟨gb303, 0, none⟩) (Kd.V_mono HO285.out (fun k_ hk => (⟨hk, by first | exact hk.2 | exact hk.2.1 | exact hk.2.2⟩ : _ ∧ k_ ≠ gb303))) (fun _ hk => hk.2) (.slice Ao56 t292.length co56)) (fun _ hk => hk.2) (.slice Ao60 t295.length co60)) (fun _ hk => hk.2) (.int .u64 t298)) (fun _ hk => hk.2) (.slice Ao61 t299.length co61)) (fun _ h_ => h_.1))) hb); have n2_ := Aside0.mk (Kd.V_below (by (with_reducible repeat (first | apply Kd.V_alloc | apply Kd.V_drewN | apply Kd.V_drew)); exact (Kd.V_mono (Kd.V_far (p := ⟨gb303, 3, none⟩) (Kd.V_far (p := ⟨gb303, 2, none⟩) (Kd.V_far (p := ⟨gb303, 1, none⟩) (Kd.V_far (p := ⟨gb303, 0, none⟩) (Kd.V_mono HO289.out (fun k_ hk => (⟨hk, by first | exact hk.2 | exact hk.2.1 | exact hk.2.2⟩ : _ ∧ k_ ≠ gb303))) (fun _ hk => hk.2) (.slice Ao56 t292.length co56)) (fun _ hk => hk.2) (.slice Ao60 t295.length co60)) (fun _ hk => hk.2) (.int .u64 t298)) (fun _ hk => hk.2) (.slice Ao61 t299.length co61)) (fun _ h_ => h_.1))) hb); have n3_ := Aside0.mk (Kd.V_below (by (with_reducible repeat (first | apply Kd.V_alloc | apply Kd.V_drewN | apply Kd.V_drew)); exact (Kd.V_mono (Kd.V_far (p := ⟨gb303, 3, none⟩) (Kd.V_far (p := ⟨gb303, 2, none⟩) (Kd.V_far (p := ⟨gb303, 1, none⟩) (Kd.V_far (p := ⟨gb303, 0, none⟩) (Kd.V_mono HO294.out (fun k_ hk => (⟨hk, by first | exact hk.2 | exact hk.2.1 | exact hk.2.2⟩ : _ ∧ k_ ≠ gb303))) (fun _ hk => hk.2) (.slice Ao56 t292.length co56)) (fun _ hk => hk.2) (.slice Ao60 t295.length co60)) (fun _ hk => hk.2) (.int .u64 t298)) (fun _ hk => hk.2) (.slice Ao61 t299.length co61)) (fun _ h_ => h_.1))) hb); have n4_ := Aside0.mk (Kd.V_below (by (with_reducible repeat (first | apply Kd.V_alloc | apply Kd.V_drewN | apply Kd.V_drew)); exact (Kd.V_mono (Kd.V_far (p := ⟨gb303, 3, none⟩) (Kd.V_far (p := ⟨gb303, 2, none⟩) (Kd.V_far (p := ⟨gb303, 1, none⟩) (Kd.V_far (p := ⟨gb303, 0, none⟩) (Kd.V_mono HO297.out (fun k_ hk => (⟨hk, by first | exact hk.2 | exact hk.2.1 | exact hk.2.2⟩ : _ ∧ k_ ≠ gb303))) (fun _ hk => hk.2) (.slice Ao56 t292.length co56)) (fun _ hk => hk.2) (.slice Ao60 t295.length co60)) (fun _ hk => hk.2) (.int .u64 t298)) (fun _ hk => hk.2) (.slice Ao61 t299.length co61)) (fun _ h_ => h_.1))) hb); have n5_ := Aside0.mk (Kd.V_below (by (with_reducible repeat (first | apply Kd.V_alloc | apply Kd.V_drewN | apply Kd.V_drew)); exact (Kd.V_mono (Kd.V_far (p := ⟨gb303, 3, none⟩) (Kd.V_far (p := ⟨gb303, 2, none⟩) (Kd.V_far (p := ⟨gb303, 1, none⟩) (Kd.V_far (p := ⟨gb303, 0, none⟩) (Kd.V_mono HO301.out (fun k_ hk => (⟨hk, by first | exact hk.2 | exact hk.2.1 | exact hk.2.2⟩ : _ ∧ k_ ≠ gb303))) (fun _ hk => hk.2) (.slice Ao56 t292.length co56)) (fun _ hk => hk.2) (.slice Ao60 t295.length co60)) (fun _ hk => hk.2) (.int .u64 t298)) (fun _ hk => hk.2) (.slice Ao61 t299.length co61)) (fun _ h_ => h_.1))) hb); have n6_ := Aside0.mk (blk_below (g := gb273) (o := .cells #[.slice A0_0 l0_0.length c0_0, .slice A0_1 l0_1.length c0_1, .int .u64 a0_2, .slice A0_3 l0_3.length c0_3] 29 (0, 0)) (by (with_reducible repeat (first | refine blk_drewN ?_ _ | refine blk_drew ?_ | refine blk_alloc ?_ _)); refine blk_far ?_ NB273_303.out _; (with_reducible repeat (first | refine blk_drewN ?_ _ | refine blk_drew ?_ | refine blk_alloc ?_ _)); refine blk_far ?_ NB273_303.out _; (with_reducible repeat (first | refine blk_drewN ?_ _ | refine blk_drew ?_ | refine blk_alloc ?_ _)); refine blk_far ?_ NB273_303.out _; (with_reducible repeat (first | refine blk_drewN ?_ _ | refine blk_drew ?_ | refine blk_alloc ?_ _)); refine blk_far ?_ NB273_303.out _; (with_reducible repeat (first | refine blk_drewN ?_ _ | refine blk_drew ?_ | refine blk_alloc ?_ _)); exact BK273.out) hb); have n7_ := Aside0.mk (blk_below (g := gb291) (o := .cells #[.slice Ao47 t280.length co47, .slice Ao50 t283.length co50, .int .u64 t286, .slice Ao51 t287.length co51] 29 (0, 0)) (by (with_reducible repeat (first | refine blk_drewN ?_ _ | refine blk_drew ?_ | refine blk_alloc ?_ _)); refine blk_far ?_ NB291_303.out _; (with_reducible repeat (first | refine blk_drewN ?_ _ | refine blk_drew ?_ | refine blk_alloc ?_ _)); refine blk_far ?_ NB291_303.out _; (with_reducible repeat (first | refine blk_drewN ?_ _ | refine blk_drew ?_ | refine blk_alloc ?_ _)); refine blk_far ?_ NB291_303.out _; (with_reducible repeat (first | refine blk_drewN ?_ _ | refine blk_drew ?_ | refine blk_alloc ?_ _)); refine blk_far ?_ NB291_303.out _; (with_reducible repeat (first | refine blk_drewN ?_ _ | refine blk_drew ?_ | refine blk_alloc ?_ _)); exact BK291.out) hb); have n8_ := Aside0.mk (blk_below (g := gb303) (o := .cells #[.slice Ao56 t292.length co56, .slice Ao60 t295.length co60, .int .u64 t298, .slice Ao61 t299.length co61] 29 (0, 0)) (by (with_reducible repeat (first | refine blk_drewN ?_ _ | refine blk_drew ?_ | refine blk_alloc ?_ _)); refine blk_put (cs := #[.slice Ao56 t292.length co56, .slice Ao60 t295.length co60, .int .u64 t298, .slice none 0 0]) ?_ 3 _ rfl; (with_reducible repeat (first | refine blk_drewN ?_ _ | refine blk_drew ?_ | refine blk_alloc ?_ _)); refine blk_put (cs := #[.slice Ao56 t292.length co56, .slice Ao60 t295.length co60, .int .u64 0, .slice none 0 0]) ?_ 2 _ rfl; (with_reducible repeat (first | refine blk_drewN ?_ _ | refine blk_drew ?_ | refine blk_alloc ?_ _)); refine blk_put (cs := #[.slice Ao56 t292.length co56, .slice none 0 0, .int .u64 0, .slice none 0 0]) ?_ 1 _ rfl; (with_reducible repeat (first | refine blk_drewN ?_ _ | refine blk_drew ?_ | refine blk_alloc ?_ _)); refine blk_put (cs := #[.slice none 0 0, .slice none 0 0, .int .u64 0, .slice none 0 0]) ?_ 0 _ rfl; (with_reducible repeat (first | refine blk_drewN ?_ _ | refine blk_drew ?_ | refine blk_alloc ?_ _)); exact BK303.out) hb); have n9_ := Aside0.mk (below_step beT_ hb); clear HO282; clear HO285; clear HO289; clear HO294; clear HO297; clear HO301; clear BK273; clear BK291; clear BK303; clear HB; have HO282 := n0_; have HO285 := n1_; have HO289 := n2_; have HO294 := n3_; have HO297 := n4_; have HO301 := n5_; have BK273 := n6_; have BK291 := n7_; have BK303 := n8_; have HB := n9_; clear n0_ n1_ n2_ n3_ n4_ n5_ n6_ n7_ n8_ n9_; (try clear hb); (try clear hb2); (try clear hk); (try clear hi); have hcz64_0 : w63.cell? ⟨gb291, 0, none⟩ = some (.slice Ao47 t280.length co47) := (blk_cell BK291.out 0).trans rfl; have hcz64_1 : w63.cell? ⟨gb291, 1, none⟩ = some (.slice Ao50 t283.length co50) := (blk_cell BK291.out 1).trans rfl; have hcz64_2 : w63.cell? ⟨gb291, 2, none⟩ = some (.int .u64 t286) := (blk_cell BK291.out 2).trans rfl; have hcz64_3 : w63.cell? ⟨gb291, 3, none⟩ = some (.slice Ao51 t287.length co51) := (blk_cell BK291.out 3).trans rfl; have hfz64_0 := blk_frozen BK291.out 0; have hfz64_1 := blk_frozen BK291.out 1; have hfz64_2 := blk_frozen BK291.out 2; have hfz64_3 := blk_frozen BK291.out 3; have hcz65_0 : w63.cell? ⟨gb273, 0, none⟩ = some (.slice A0_0 l0_0.length c0_0) := (blk_cell BK273.out 0).trans rfl; have hcz65_1 : w63.cell? ⟨gb273, 1, none⟩ = some (.slice A0_1 l0_1.length c0_1) := (blk_cell BK273.out 1).trans rfl; have hcz65_2 : w63.cell? ⟨gb273, 2, none⟩ = some (.int .u64 a0_2) := (blk_cell BK273.out 2).trans rfl; have hcz65_3 : w63.cell? ⟨gb273, 3, none⟩ = some (.slice A0_3 l0_3.length c0_3) := (blk_cell BK273.out 3).trans rfl; have hfz65_0 := blk_frozen BK273.out 0; have hfz65_1 := blk_frozen BK273.out 1; have hfz65_2 := blk_frozen BK273.out 2; have hfz65_3 := blk_frozen BK273.out 3) | (go_at_call 10; (with_reducible refine (ferrylaw04_awake.calls k2  t305 _ A43.out).mono ?_); rintro e w66 ⟨rfl, hb⟩; have n0_ := Aside0.mk (Kd.V_below (vT_ HO282.out) hb); have n1_ := Aside0.mk (Kd.V_below (vT_ HO285.out) hb); have n2_ := Aside0.mk (Kd.V_below (vT_ HO289.out) hb); have n3_ := Aside0.mk (Kd.V_below (vT_ HO294.out) hb); have n4_ := Aside0.mk (Kd.V_below (vT_ HO297.out) hb); have n5_ := Aside0.mk (Kd.V_below (vT_ HO301.out) hb); have n6_ := Aside0.mk (blk_below (g := gb273) (o := .cells #[.slice A0_0 l0_0.length c0_0, .slice A0_1 l0_1.length c0_1, .int .u64 a0_2, .slice A0_3 l0_3.length c0_3] 29 (0, 0)) (bT_ BK273.out) hb); have n7_ := Aside0.mk (blk_below (g := gb291) (o := .cells #[.slice Ao47 t280.length co47, .slice Ao50 t283.length co50, .int .u64 t286, .slice Ao51 t287.length co51] 29 (0, 0)) (bT_ BK291.out) hb); have n8_ := Aside0.mk (blk_below (g := gb303) (o := .cells #[.slice Ao56 t292.length co56, .slice Ao60 t295.length co60, .int .u64 t298, .slice Ao61 t299.length co61] 29 (0, 0)) (bT_ BK303.out) hb); have n9_ := Aside0.mk (below_step beT_ hb); clear HO282; clear HO285; clear HO289; clear HO294; clear HO297; clear HO301; clear BK273; clear BK291; clear BK303; clear HB; have HO282 := n0_; have HO285 := n1_; have HO289 := n2_; have HO294 := n3_; have HO297 := n4_; have HO301 := n5_; have BK273 := n6_; have BK291 := n7_; have BK303 := n8_; have HB := n9_; clear n0_ n1_ n2_ n3_ n4_ n5_ n6_ n7_ n8_ n9_; (try clear hb); (try clear hb2); (try clear hk); (try clear hi)))
                  go_ret
                  exact ⟨by first | rfl | (simp [errW_none, errW_some] <;> rfl) | (simp [*, errW_none, errW_some] <;> rfl), by repeat (first | (with_reducible first | exact HB.out | apply below_alloc | apply pw_below_drewN | apply below_drew1 | refine below_set ?_ GE273.out | refine below_set ?_ GE291.out | refine below_set ?_ GE303.out) | exact HB.out)⟩
                rw [if_neg c42] at H
                exact absurd H (by simp)
              replace c41 := Bool.eq_false_iff.mpr c41
              subst c41
              have H1 : (none) = some r := by rw [if_neg (show ¬ (false = true) by decide)] at H; exact H
              clear H
              have H := H1
              clear H1
              exact absurd H (by simp)
            rw [if_neg c39] at H
            exact absurd H (by simp)
          rw [if_neg c37] at H
          have c37b0 : (t290 == 0) = false := beq_eq_false_iff_ne.mpr c37
          have c37b1 : (t290 != 0) = true := bne_iff_ne.mpr c37
          replace H := Option.bind_eq_some_iff.mp H
          obtain ⟨t306, A670, H⟩ := H
          replace H : (some t306) = some r := H
          have A67 := Aside0.mk A670
          clear A670
          obtain rfl := Option.some.inj H
          have hcz68_0 : wr.cell? ⟨gb273, 0, none⟩ = some (.slice A0_0 l0_0.length c0_0) := (blk_cell BK273.out 0).trans rfl
          have hcz68_1 : wr.cell? ⟨gb273, 1, none⟩ = some (.slice A0_1 l0_1.length c0_1) := (blk_cell BK273.out 1).trans rfl
          have hcz68_2 : wr.cell? ⟨gb273, 2, none⟩ = some (.int .u64 a0_2) := (blk_cell BK273.out 2).trans rfl
          have hcz68_3 : wr.cell? ⟨gb273, 3, none⟩ = some (.slice A0_3 l0_3.length c0_3) := (blk_cell BK273.out 3).trans rfl
          have hfz68_0 := blk_frozen BK273.out 0
          have hfz68_1 := blk_frozen BK273.out 1
          have hfz68_2 := blk_frozen BK273.out 2
          have hfz68_3 := blk_frozen BK273.out 3
          go_wp2_with (first | ((with_reducible refine gate_callee (f := 12) rfl ?_); refine goesL_ (some 50) rfl rfl Try.func12 (by kernel_rfl) rfl #[.agg #[.slice A0_0 l0_0.length c0_0, .slice A0_1 l0_1.length c0_1, .int .u64 a0_2, .slice A0_3 l0_3.length c0_3], .int .u32 a1, .int .u32 a2, .int .i64 a3] rfl (by (try simp only [List.map_toArray, List.map_cons, List.map_nil]); first | done | rfl | (simp only [List.length_drop, List.length_take]; rfl)) ?_; (with_reducible refine (guest_Map.calls (fun k_ => k_ < w.heap.size) _ _ l0_0 (fun k_ => k_ < w.heap.size) _ _ l0_1 a0_2 (fun k_ => k_ < w.heap.size) _ _ l0_3 a1 a2 a3 t280 t283 t286 t287 t290 _ ?side1 ?side2 ?side3 A36.out).mono ?_); (case side1 => exact Kd.V_mk HC0_0.out (Kd.F_below (Kd.C_F k55_heap HR0_0.out) beT_)); (case side2 => exact Kd.V_mk HC0_1.out (Kd.F_below (Kd.C_F k60_heap HR0_1.out) beT_)); (case side3 => exact Kd.V_mk HC0_3.out (Kd.F_below (Kd.C_F k39_heap HR0_3.out) beT_)); rintro e w69 ⟨v281, v284, v288, rfl, ho0, ho1, ho2, hb⟩; refine ⟨_, rfl, ?_⟩; have n0_ := Aside0.mk (Kd.V_lower (Kd.V_mono (ok' := fun k_ => k_ ≠ gb273) ho0 (fun k_ hk_ => Or.elim hk_ (fun hs_ => Or.elim hs_ (fun hs_ => fun e_ => Nat.not_le.2 hs_ (by rw [e_]; exact GW273.out)) (fun hs_ => Or.elim hs_ (fun hs_ => fun e_ => Nat.not_le.2 hs_ (by rw [e_]; exact GW273.out)) (fun hs_ => fun e_ => Nat.not_le.2 hs_ (by rw [e_]; exact GW273.out)))) (fun hn_ => (Kd.freshB (g := gb273) (o := .cells #[.slice A0_0 l0_0.length c0_0, .slice A0_1 l0_1.length c0_1, .int .u64 a0_2, .slice A0_3 l0_3.length c0_3] 29 (0, 0)) (bT_ BK273.out) k_ hn_)))) (below_size beT_)); have n1_ := Aside0.mk (Kd.V_lower (Kd.V_mono (ok' := fun k_ => k_ ≠ gb273) ho1 (fun k_ hk_ => Or.elim hk_ (fun hs_ => Or.elim hs_ (fun hs_ => fun e_ => Nat.not_le.2 hs_ (by rw [e_]; exact GW273.out)) (fun hs_ => Or.elim hs_ (fun hs_ => fun e_ => Nat.not_le.2 hs_ (by rw [e_]; exact GW273.out)) (fun hs_ => fun e_ => Nat.not_le.2 hs_ (by rw [e_]; exact GW273.out)))) (fun hn_ => (Kd.freshB (g := gb273) (o := .cells #[.slice A0_0 l0_0.length c0_0, .slice A0_1 l0_1.length c0_1, .int .u64 a0_2, .slice A0_3 l0_3.length c0_3] 29 (0, 0)) (bT_ BK273.out) k_ hn_)))) (below_size beT_)); have n2_ := Aside0.mk (Kd.V_lower (Kd.V_mono (ok' := fun k_ => k_ ≠ gb273) ho2 (fun k_ hk_ => Or.elim hk_ (fun hs_ => Or.elim hs_ (fun hs_ => fun e_ => Nat.not_le.2 hs_ (by rw [e_]; exact GW273.out)) (fun hs_ => Or.elim hs_ (fun hs_ => fun e_ => Nat.not_le.2 hs_ (by rw [e_]; exact GW273.out)) (fun hs_ => fun e_ => Nat.not_le.2 hs_ (by rw [e_]; exact GW273.out)))) (fun hn_ => (Kd.freshB (g := gb273) (o := .cells #[.slice A0_0 l0_0.length c0_0, .slice A0_1 l0_1.length c0_1, .int .u64 a0_2, .slice A0_3 l0_3.length c0_3] 29 (0, 0)) (bT_ BK273.out) k_ hn_)))) (below_size beT_)); have n3_ := Aside0.mk (blk_below (g := gb273) (o := .cells #[.slice A0_0 l0_0.length c0_0, .slice A0_1 l0_1.length c0_1, .int .u64 a0_2, .slice A0_3 l0_3.length c0_3] 29 (0, 0)) (bT_ BK273.out) hb); have n4_ := Aside0.mk (below_step beT_ hb); clear BK273; clear HB; have HO282 := n0_; have HO285 := n1_; have HO289 := n2_; have BK273 := n3_; have HB := n4_; clear n0_ n1_ n2_ n3_ n4_; (try clear hb); (try clear hb2); (try clear hk); (try clear hi); (try clear ho0); (try clear ho1); (try clear ho2)) | ((with_reducible refine gate_dst (N := 11) rfl ?_); (try (refine gate_guard (by rfl) ?_; dsimp only)); refine box_event ?hg (N := 11) ?hd (cs := #[.slice none 0 0, .slice none 0 0, .int .u64 0, .slice none 0 0]) (t := 29) ?hr ?_; (case hd => rfl); (case hg => rfl); (case hr => first | (go_simp; done) | (go_simp; rfl)); intro gb291 hg w70 hbox hb; have n0_ := Aside0.mk (Kd.V_below (Kd.V_elderB (vT_ HO282.out) gb291 (Nat.le_of_eq hg.symm)) hb); have n1_ := Aside0.mk (Kd.V_below (Kd.V_elderB (vT_ HO285.out) gb291 (Nat.le_of_eq hg.symm)) hb); have n2_ := Aside0.mk (Kd.V_below (Kd.V_elderB (vT_ HO289.out) gb291 (Nat.le_of_eq hg.symm)) hb); have n3_ := Aside0.mk (blk_below (g := gb273) (o := .cells #[.slice A0_0 l0_0.length c0_0, .slice A0_1 l0_1.length c0_1, .int .u64 a0_2, .slice A0_3 l0_3.length c0_3] 29 (0, 0)) (bT_ BK273.out) hb); have n4_ := Aside0.mk (below_step beT_ hb); have n5_ := Aside0.mk (hbox); have n6_ := Aside0.mk ((by rw [hg]; exact (below_size beT_) : w.heap.size ≤ gb291)); have n7_ := Aside0.mk ((by rw [hg]; exact (below_size beT_) : w.heap.size ≤ gb291)); have n8_ := Aside0.mk ((by rw [hg]; exact Nat.ne_of_lt (blk_lt (g := gb273) (o := .cells #[.slice A0_0 l0_0.length c0_0, .slice A0_1 l0_1.length c0_1, .int .u64 a0_2, .slice A0_3 l0_3.length c0_3] 29 (0, 0)) (bT_ BK273.out)) : gb273 ≠ gb291)); have n9_ := Aside0.mk ((by rw [hg]; exact Nat.ne_of_gt (blk_lt (g := gb273) (o := .cells #[.slice A0_0 l0_0.length c0_0, .slice A0_1 l0_1.length c0_1, .int .u64 a0_2, .slice A0_3 l0_3.length c0_3] 29 (0, 0)) (bT_ BK273.out)) : gb291 ≠ gb273)); clear HO282; clear HO285; clear HO289; clear BK273; clear HB; have HO282 := n0_; have HO285 := n1_; have HO289 := n2_; have BK273 := n3_; have HB := n4_; have BK291 := n5_; have GW291 := n6_; have GE291 := n7_; have NB273_291 := n8_; have NB291_273 := n9_; clear n0_ n1_ n2_ n3_ n4_ n5_ n6_ n7_ n8_ n9_; clear hb hbox hg; obtain ⟨Ao71, co71, eo71⟩ := Kd.V_slice HO282.out; subst eo71; have hnb72 := NB291_273.out; have hnc72 := NB273_291.out; have hcz73_0 : w70.cell? ⟨gb291, 0, none⟩ = some (.slice none 0 0) := (blk_cell BK291.out 0).trans rfl; have hcz73_1 : w70.cell? ⟨gb291, 1, none⟩ = some (.slice none 0 0) := (blk_cell BK291.out 1).trans rfl; have hcz73_2 : w70.cell? ⟨gb291, 2, none⟩ = some (.int .u64 0) := (blk_cell BK291.out 2).trans rfl; have hcz73_3 : w70.cell? ⟨gb291, 3, none⟩ = some (.slice none 0 0) := (blk_cell BK291.out 3).trans rfl; have hfz73_0 := blk_frozen BK291.out 0; have hfz73_1 := blk_frozen BK291.out 1; have hfz73_2 := blk_frozen BK291.out 2; have hfz73_3 := blk_frozen BK291.out 3; obtain ⟨Ao74, co74, eo74⟩ := Kd.V_slice HO285.out; subst eo74; obtain ⟨Ao75, co75, eo75⟩ := Kd.V_slice HO289.out; subst eo75) | ((with_reducible refine gate_callee (f := 10) rfl ?_); refine goesL_ (some 55) rfl rfl Try.func10 (by kernel_rfl) rfl #[] rfl (by (try simp only [List.map_toArray, List.map_cons, List.map_nil]); first | done | rfl | (simp only [List.length_drop, List.length_take]; rfl)) ?_; (with_reducible refine (ferrylaw04_awake.calls k2  t306 _ A67.out).mono ?_); rintro e w76 ⟨rfl, hb⟩; refine ⟨_, rfl, ?_⟩; have n0_ := Aside0.mk (Kd.V_below (by (with_reducible repeat (first | apply Kd.V_alloc | apply Kd.V_drewN | apply Kd.V_drew)); exact (Kd.V_mono (Kd.V_far (p := ⟨gb291, 3, none⟩) (Kd.V_far (p := ⟨gb291, 2, none⟩) (Kd.V_far (p := ⟨gb291, 1, none⟩) (Kd.V_far (p := ⟨gb291, 0, none⟩) (Kd.V_mono HO282.out (fun k_ hk => (⟨hk, by first | exact hk.2 | exact hk.2.1 | exact hk.2.2⟩ : _ ∧ k_ ≠ gb291))) (fun _ hk => hk.2) (.slice Ao71 t280.length co71)) (fun _ hk => hk.2) (.slice Ao74 t283.length co74)) (fun _ hk => hk.2) (.int .u64 t286)) (fun _ hk => hk.2) (.slice Ao75 t287.length co75)) (fun _ h_ => h_.1))) hb); have n1_ := Aside0.mk (Kd.V_below (by (with_reducible repeat (first | apply Kd.V_alloc | apply Kd.V_drewN | apply Kd.V_drew)); exact (Kd.V_mono (Kd.V_far (p := ⟨gb291, 3, none⟩) (Kd.V_far (p := ⟨gb291, 2, none⟩) (Kd.V_far (p := ⟨gb291, 1, none⟩) (Kd.V_far (p := ⟨gb291, 0, none⟩) (Kd.V_mono HO285.out (fun k_ hk => (⟨hk, by first | exact hk.2 | exact hk.2.1 | exact hk.2.2⟩ : _ ∧ k_ ≠ gb291))) (fun _ hk => hk.2) (.slice Ao71 t280.length co71)) (fun _ hk => hk.2) (.slice Ao74 t283.length co74)) (fun _ hk => hk.2) (.int .u64 t286)) (fun _ hk => hk.2) (.slice Ao75 t287.length co75)) (fun _ h_ => h_.1))) hb); have n2_ := Aside0.mk (Kd.V_below (by (with_reducible repeat (first | apply Kd.V_alloc | apply Kd.V_drewN | apply Kd.V_drew)); exact (Kd.V_mono (Kd.V_far (p := ⟨gb291, 3, none⟩) (Kd.V_far (p := ⟨gb291, 2, none⟩) (Kd.V_far (p := ⟨gb291, 1, none⟩) (Kd.V_far (p := ⟨gb291, 0, none⟩) (Kd.V_mono HO289.out (fun k_ hk => (⟨hk, by first | exact hk.2 | exact hk.2.1 | exact hk.2.2⟩ : _ ∧ k_ ≠ gb291))) (fun _ hk => hk.2) (.slice Ao71 t280.length co71)) (fun _ hk => hk.2) (.slice Ao74 t283.length co74)) (fun _ hk => hk.2) (.int .u64 t286)) (fun _ hk => hk.2) (.slice Ao75 t287.length co75)) (fun _ h_ => h_.1))) hb); have n3_ := Aside0.mk (blk_below (g := gb273) (o := .cells #[.slice A0_0 l0_0.length c0_0, .slice A0_1 l0_1.length c0_1, .int .u64 a0_2, .slice A0_3 l0_3.length c0_3] 29 (0, 0)) (by (with_reducible repeat (first | refine blk_drewN ?_ _ | refine blk_drew ?_ | refine blk_alloc ?_ _)); refine blk_far ?_ NB273_291.out _; (with_reducible repeat (first | refine blk_drewN ?_ _ | refine blk_drew ?_ | refine blk_alloc ?_ _)); refine blk_far ?_ NB273_291.out _; (with_reducible repeat (first | refine blk_drewN ?_ _ | refine blk_drew ?_ | refine blk_alloc ?_ _)); refine blk_far ?_ NB273_291.out _; (with_reducible repeat (first | refine blk_drewN ?_ _ | refine blk_drew ?_ | refine blk_alloc ?_ _)); refine blk_far ?_ NB273_291.out _; (with_reducible repeat (first | refine blk_drewN ?_ _ | refine blk_drew ?_ | refine blk_alloc ?_ _)); exact BK273.out) hb); have n4_ := Aside0.mk (blk_below (g := gb291) (o := .cells #[.slice Ao71 t280.length co71, .slice Ao74 t283.length co74, .int .u64 t286, .slice Ao75 t287.length co75] 29 (0, 0)) (by (with_reducible repeat (first | refine blk_drewN ?_ _ | refine blk_drew ?_ | refine blk_alloc ?_ _)); refine blk_put (cs := #[.slice Ao71 t280.length co71, .slice Ao74 t283.length co74, .int .u64 t286, .slice none 0 0]) ?_ 3 _ rfl; (with_reducible repeat (first | refine blk_drewN ?_ _ | refine blk_drew ?_ | refine blk_alloc ?_ _)); refine blk_put (cs := #[.slice Ao71 t280.length co71, .slice Ao74 t283.length co74, .int .u64 0, .slice none 0 0]) ?_ 2 _ rfl; (with_reducible repeat (first | refine blk_drewN ?_ _ | refine blk_drew ?_ | refine blk_alloc ?_ _)); refine blk_put (cs := #[.slice Ao71 t280.length co71, .slice none 0 0, .int .u64 0, .slice none 0 0]) ?_ 1 _ rfl; (with_reducible repeat (first | refine blk_drewN ?_ _ | refine blk_drew ?_ | refine blk_alloc ?_ _)); refine blk_put (cs := #[.slice none 0 0, .slice none 0 0, .int .u64 0, .slice none 0 0]) ?_ 0 _ rfl; (with_reducible repeat (first | refine blk_drewN ?_ _ | refine blk_drew ?_ | refine blk_alloc ?_ _)); exact BK291.out) hb); have n5_ := Aside0.mk (below_step beT_ hb); clear HO282; clear HO285; clear HO289; clear BK273; clear BK291; clear HB; have HO282 := n0_; have HO285 := n1_; have HO289 := n2_; have BK273 := n3_; have BK291 := n4_; have HB := n5_; clear n0_ n1_ n2_ n3_ n4_ n5_; (try clear hb); (try clear hb2); (try clear hk); (try clear hi)))
          go_ret
          exact ⟨by first | rfl | (simp [errW_none, errW_some] <;> rfl) | (simp [*, errW_none, errW_some] <;> rfl), by repeat (first | (with_reducible first | exact HB.out | apply below_alloc | apply pw_below_drewN | apply below_drew1 | refine below_set ?_ GE273.out | refine below_set ?_ GE291.out) | exact HB.out)⟩

end Go.Proofs.Ytjhfglpgpicmiaa.F
end
