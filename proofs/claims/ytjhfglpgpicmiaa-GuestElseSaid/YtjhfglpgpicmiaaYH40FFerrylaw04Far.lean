import Derived.Below
import Derived.Deep.Draws
import Derived.Deep.AppendLies
import Derived.Maps.AppendAt
import Derived.OwnWalk
import Derived.Laws.BytesArg
import Derived.Laws.MakeOwn
import Derived.Laws.OwnMore
import Derived.Deep.OwnRows
import Derived.Tactics
import Derived.Lib.ConvBytes
import Derived.Laws.Slices
import Derived.WalkKit
import Derived.KernelRfl
import Derived.RowKit3
import Derived.Deep.LoopGhost
import Derived.Deep.QuietTactic
import Derived.BigQuiet
import Derived.WideLaws
import Derived.Deep.DeepCutAuto
import Derived.Deep.CutBlock
import Derived.Deep.RegionHeld3
import Derived.Laws.Rows
import Derived.Lib.AppendStr
import Derived.ArgAppend
import Derived.Laws.IdiomCopy
import Derived.RowKit
import Derived.OrdersHeld
import Derived.Laws.BitsLemmas
import Derived.Laws.StructEq
import Derived.Test.YtjhfglpgpicmiaaZF0
import Derived.Test.YtjhfglpgpicmiaaYA0
import Derived.Test.YtjhfglpgpicmiaaYA7Twice
import Derived.Test.YtjhfglpgpicmiaaYH37
section
namespace Go.Proofs.Ytjhfglpgpicmiaa.F
open Go.RowKit Go.Proofs.YtjhfglpgpicmiaaW.PrintWords Go.Proofs.YtjhfglpgpicmiaaW.PrintLast Go.Proofs.YtjhfglpgpicmiaaW.PrintMore
attribute [local go_sem] max2_int min2_int max_two min_two max_three min_three max_four min_four
attribute [local go_sem] cell_twice
set_option linter.unusedVariables false
set_option linter.unusedSimpArgs false

mutual
def ferrylaw04_far.l0 : Nat → List (S55) → Int → Int → List (S55) → List (S60) → Int → List (S39) → List (S55) → Option ((List (S55)) × (List (S60)))
  | 0, _, _, _, _, _, _, _, _ => none
  | k + 1, x11, x12, x13, x539000, x539001, x539002, x539003, x541000 => if x13 < x12 then (if 0 ≤ x13 then (if x13 < (x11.length : Int) then (if (IntKind.u64.wrap (((rd_T55 x11 x13).f0) * 16384)) < x539002 then (if x541000.length < 8796093022208 then (ferrylaw04_far.l0 k x11 x12 (wrap64 (x13 + 1)) x539000 x539001 x539002 x539003 (x541000 ++ [(⟨(rd_T55 x11 x13).f0, (rd_T55 x11 x13).f1⟩ : S55)])) else (none)) else (if (IntKind.u64.wrap ((IntKind.u64.wrap (((rd_T55 x11 x13).f0) * 16384)) - x539002)) ≥ 4294967296 then (if x541000.length < 8796093022208 then (ferrylaw04_far.l0 k x11 x12 (wrap64 (x13 + 1)) x539000 x539001 x539002 x539003 (x541000 ++ [(⟨(rd_T55 x11 x13).f0, (rd_T55 x11 x13).f1⟩ : S55)])) else (none)) else (ferrylaw04_far.l0 k x11 x12 (wrap64 (x13 + 1)) x539000 x539001 x539002 x539003 x541000))) else (none)) else (none)) else (ferrylaw04_far.l1 k x539001 (x539001.length : Int) 0 x539000 x539001 x539002 x539003 x541000 ([] : List (S60)))
def ferrylaw04_far.l1 : Nat → List (S60) → Int → Int → List (S55) → List (S60) → Int → List (S39) → List (S55) → List (S60) → Option ((List (S55)) × (List (S60)))
  | 0, _, _, _, _, _, _, _, _, _ => none
  | k + 1, x40, x41, x42, x539000, x539001, x539002, x539003, x541000, x541001 => if x42 < x41 then (if 0 ≤ x42 then (if x42 < (x40.length : Int) then (if ((rd_T60 x40 x42).f0) < x539002 then (if x541001.length < 8796093022208 then (ferrylaw04_far.l1 k x40 x41 (wrap64 (x42 + 1)) x539000 x539001 x539002 x539003 x541000 (x541001 ++ [(⟨(rd_T60 x40 x42).f0, (rd_T60 x40 x42).f1⟩ : S60)])) else (none)) else (if (IntKind.u64.wrap (((rd_T60 x40 x42).f0) - x539002)) ≥ 4294967296 then (if x541001.length < 8796093022208 then (ferrylaw04_far.l1 k x40 x41 (wrap64 (x42 + 1)) x539000 x539001 x539002 x539003 x541000 (x541001 ++ [(⟨(rd_T60 x40 x42).f0, (rd_T60 x40 x42).f1⟩ : S60)])) else (none)) else (ferrylaw04_far.l1 k x40 x41 (wrap64 (x42 + 1)) x539000 x539001 x539002 x539003 x541000 x541001))) else (none)) else (none)) else (some (x541000, x541001))
end
def ferrylaw04_far.f (k : Nat) (l0_0 : List (S55)) (l0_1 : List (S60)) (a0_2 : Int) (l0_3 : List (S39)) : Option ((List (S55)) × (List (S60))) := ferrylaw04_far.l0 k l0_0 (l0_0.length : Int) 0 l0_0 l0_1 a0_2 l0_3 ([] : List (S55))
set_option maxHeartbeats 8000000 in
set_option maxRecDepth 100000 in
theorem ferrylaw04_far.calls (k : Nat) (A0_0 : Option Addr) (c0_0 : Nat) (l0_0 : List (S55)) (A0_1 : Option Addr) (c0_1 : Nat) (l0_1 : List (S60)) (a0_2 : Int) (A0_3 : Option Addr) (c0_3 : Nat) (l0_3 : List (S39)) (r1 : List (S55)) (r2 : List (S60)) (w : World) (hr0_0 : Kd.C k55 w A0_0 l0_0.length l0_0) (hc0_0 : l0_0.length ≤ c0_0) (hr0_1 : Kd.C k60 w A0_1 l0_1.length l0_1) (hc0_1 : l0_1.length ≤ c0_1) (hr0_3 : Kd.C k39 w A0_3 l0_3.length l0_3) (hc0_3 : l0_3.length ≤ c0_3) (h : ferrylaw04_far.f k l0_0 l0_1 a0_2 l0_3 = some (r1, r2)) :
    Calls Try.prog 22 #[.agg #[.slice A0_0 l0_0.length c0_0, .slice A0_1 l0_1.length c0_1, .int .u64 a0_2, .slice A0_3 l0_3.length c0_3]] w fun e w' => ∃ v0_ v1_ : Value, e = .returned (.agg #[v0_, v1_]) ∧ Kd.R k55 55 w' w.heap.size (fun _ => True) v0_ r1 ∧ Kd.R k60 60 w' w.heap.size (fun _ => True) v1_ r2 ∧ Below w.heap.size w w' := by
  have hu29 := Try.underlying29
  have hu25 := Try.underlying25
  have hu55 := Try.underlying55
  have hu60 := Try.underlying60
  have HR0_0 := Aside0.mk hr0_0
  have HC0_0 := Aside0.mk hc0_0
  clear hr0_0 hc0_0
  have HR0_1 := Aside0.mk hr0_1
  have HC0_1 := Aside0.mk hc0_1
  clear hr0_1 hc0_1
  have HR0_3 := Aside0.mk hr0_3
  have HC0_3 := Aside0.mk hc0_3
  clear hr0_3 hc0_3
  have HB := Aside0.mk (Below.refl w.heap.size w)
  have H : (ferrylaw04_far.l0 k l0_0 (l0_0.length : Int) 0 l0_0 l0_1 a0_2 l0_3 ([] : List (S55))) = some (r1, r2) := h
  clear h
  have H' := Aside0.mk H
  clear H
  go_enter Try.func22, Try.ntmps22
  go_wp2_with (first | ((with_reducible refine gate_dst (N := 1) rfl ?_); refine box_event ?hg (N := 1) ?hd (cs := #[.slice A0_0 l0_0.length c0_0, .slice A0_1 l0_1.length c0_1, .int .u64 a0_2, .slice A0_3 l0_3.length c0_3]) (t := 29) ?hr ?_; (case hd => rfl); (case hg => rfl); (case hr => first | (go_simp; done) | (go_simp; rfl)); intro gb538 hg w2 hbox hb; have n0_ := Aside0.mk (below_step beT_ hb); have n1_ := Aside0.mk (hbox); have n2_ := Aside0.mk ((by rw [hg]; exact (below_size beT_) : w.heap.size ≤ gb538)); have n3_ := Aside0.mk ((by rw [hg]; exact (below_size beT_) : w.heap.size ≤ gb538)); clear HB; have HB := n0_; have BK538 := n1_; have GW538 := n2_; have GE538 := n3_; clear n0_ n1_ n2_ n3_; clear hb hbox hg) | ((with_reducible refine gate_dst (N := 2) rfl ?_); refine box_event ?hg (N := 2) ?hd (cs := #[.slice none 0 0, .slice none 0 0]) (t := 25) ?hr ?_; (case hd => rfl); (case hg => rfl); (case hr => first | (go_simp; done) | (go_simp; rfl)); intro gb539 hg w3 hbox hb; have n0_ := Aside0.mk (blk_below (g := gb538) (o := .cells #[.slice A0_0 l0_0.length c0_0, .slice A0_1 l0_1.length c0_1, .int .u64 a0_2, .slice A0_3 l0_3.length c0_3] 29 (0, 0)) (bT_ BK538.out) hb); have n1_ := Aside0.mk (below_step beT_ hb); have n2_ := Aside0.mk (hbox); have n3_ := Aside0.mk ((by rw [hg]; exact (below_size beT_) : w.heap.size ≤ gb539)); have n4_ := Aside0.mk ((by rw [hg]; exact (below_size beT_) : w.heap.size ≤ gb539)); have n5_ := Aside0.mk ((by rw [hg]; exact Nat.ne_of_lt (blk_lt (g := gb538) (o := .cells #[.slice A0_0 l0_0.length c0_0, .slice A0_1 l0_1.length c0_1, .int .u64 a0_2, .slice A0_3 l0_3.length c0_3] 29 (0, 0)) (bT_ BK538.out)) : gb538 ≠ gb539)); have n6_ := Aside0.mk ((by rw [hg]; exact Nat.ne_of_gt (blk_lt (g := gb538) (o := .cells #[.slice A0_0 l0_0.length c0_0, .slice A0_1 l0_1.length c0_1, .int .u64 a0_2, .slice A0_3 l0_3.length c0_3] 29 (0, 0)) (bT_ BK538.out)) : gb539 ≠ gb538)); clear BK538; clear HB; have BK538 := n0_; have HB := n1_; have BK539 := n2_; have GW539 := n3_; have GE539 := n4_; have NB538_539 := n5_; have NB539_538 := n6_; clear n0_ n1_ n2_ n3_ n4_ n5_ n6_; clear hb hbox hg) | ((with_reducible refine gate_dst (N := 3) rfl ?_); refine box_event ?hg (N := 3) ?hd (cs := #[.slice none 0 0, .slice none 0 0]) (t := 25) ?hr ?_; (case hd => rfl); (case hg => rfl); (case hr => first | (go_simp; done) | (go_simp; rfl)); intro gb540 hg w4 hbox hb; have n0_ := Aside0.mk (blk_below (g := gb538) (o := .cells #[.slice A0_0 l0_0.length c0_0, .slice A0_1 l0_1.length c0_1, .int .u64 a0_2, .slice A0_3 l0_3.length c0_3] 29 (0, 0)) (bT_ BK538.out) hb); have n1_ := Aside0.mk (blk_below (g := gb539) (o := .cells #[.slice none 0 0, .slice none 0 0] 25 (0, 0)) (bT_ BK539.out) hb); have n2_ := Aside0.mk (below_step beT_ hb); have n3_ := Aside0.mk (hbox); have n4_ := Aside0.mk ((by rw [hg]; exact (below_size beT_) : w.heap.size ≤ gb540)); have n5_ := Aside0.mk ((by rw [hg]; exact (below_size beT_) : w.heap.size ≤ gb540)); have n6_ := Aside0.mk ((by rw [hg]; exact Nat.ne_of_lt (blk_lt (g := gb538) (o := .cells #[.slice A0_0 l0_0.length c0_0, .slice A0_1 l0_1.length c0_1, .int .u64 a0_2, .slice A0_3 l0_3.length c0_3] 29 (0, 0)) (bT_ BK538.out)) : gb538 ≠ gb540)); have n7_ := Aside0.mk ((by rw [hg]; exact Nat.ne_of_gt (blk_lt (g := gb538) (o := .cells #[.slice A0_0 l0_0.length c0_0, .slice A0_1 l0_1.length c0_1, .int .u64 a0_2, .slice A0_3 l0_3.length c0_3] 29 (0, 0)) (bT_ BK538.out)) : gb540 ≠ gb538)); have n8_ := Aside0.mk ((by rw [hg]; exact Nat.ne_of_lt (blk_lt (g := gb539) (o := .cells #[.slice none 0 0, .slice none 0 0] 25 (0, 0)) (bT_ BK539.out)) : gb539 ≠ gb540)); have n9_ := Aside0.mk ((by rw [hg]; exact Nat.ne_of_gt (blk_lt (g := gb539) (o := .cells #[.slice none 0 0, .slice none 0 0] 25 (0, 0)) (bT_ BK539.out)) : gb540 ≠ gb539)); clear BK538; clear BK539; clear HB; have BK538 := n0_; have BK539 := n1_; have HB := n2_; have BK540 := n3_; have GW540 := n4_; have GE540 := n5_; have NB538_540 := n6_; have NB540_538 := n7_; have NB539_540 := n8_; have NB540_539 := n9_; clear n0_ n1_ n2_ n3_ n4_ n5_ n6_ n7_ n8_ n9_; clear hb hbox hg; have hnb5 := NB538_539.out; have hnc5 := NB539_538.out; have hnb6 := NB538_540.out; have hnc6 := NB540_538.out; have hcz7_0 : w4.cell? ⟨gb538, 0, none⟩ = some (.slice A0_0 l0_0.length c0_0) := (blk_cell BK538.out 0).trans rfl; have hcz7_1 : w4.cell? ⟨gb538, 1, none⟩ = some (.slice A0_1 l0_1.length c0_1) := (blk_cell BK538.out 1).trans rfl; have hcz7_2 : w4.cell? ⟨gb538, 2, none⟩ = some (.int .u64 a0_2) := (blk_cell BK538.out 2).trans rfl; have hcz7_3 : w4.cell? ⟨gb538, 3, none⟩ = some (.slice A0_3 l0_3.length c0_3) := (blk_cell BK538.out 3).trans rfl; have hfz7_0 := blk_frozen BK538.out 0; have hfz7_1 := blk_frozen BK538.out 1; have hfz7_2 := blk_frozen BK538.out 2; have hfz7_3 := blk_frozen BK538.out 3))
  go_loopg [13] k (fun kq v13 w' => ∃ (x13_1 : Int) (x541000_1 : List (S55)) (u541000 : Value), v13 = .int .i64 x13_1 ∧ Aside0 (ferrylaw04_far.l0 kq l0_0 (l0_0.length : Int) x13_1 l0_0 l0_1 a0_2 l0_3 x541000_1 = some (r1, r2)) ∧ Aside0 (kq ≤ k) ∧ Aside0 (Kd.R k55 55 w' w.heap.size (fun _ => True) u541000 x541000_1) ∧ Aside0 (w'.heap[gb538]? = some (.cells #[(.slice A0_0 l0_0.length c0_0), (.slice A0_1 l0_1.length c0_1), .int .u64 a0_2, (.slice A0_3 l0_3.length c0_3)] 29 (0, 0))) ∧ Aside0 (w'.heap[gb539]? = some (.cells #[(.slice none 0 0), (.slice none 0 0)] 25 (0, 0))) ∧ Aside0 (w'.heap[gb540]? = some (.cells #[u541000, (.slice none 0 0)] 25 (0, 0))) ∧ Aside0 (Below w.heap.size w w'))
  case atStart => exact ⟨(0), (([] : List (S55))), (.slice none 0 0), (by first | rfl | (simp; done) | (simp [*]; done)), H', ⟨Nat.le_refl _⟩, ⟨by first | exact Kd.R_nil _ _ _ _ _ | exact Kd.N_nil _ _ _ _ _ | exact Kd.V_nil _ _ _ _ _ | exact Kd.Q_nil _ _ _ _ _ | exact Kd.S_nil _ _ _ _ _⟩, ⟨by (with_reducible repeat (first | refine blk_drewN ?_ _ | refine blk_drew ?_ | refine blk_alloc ?_ _)); exact BK538.out⟩, ⟨by (with_reducible repeat (first | refine blk_drewN ?_ _ | refine blk_drew ?_ | refine blk_alloc ?_ _)); exact BK539.out⟩, ⟨by (with_reducible repeat (first | refine blk_drewN ?_ _ | refine blk_drew ?_ | refine blk_alloc ?_ _)); exact BK540.out⟩, ⟨by repeat (first | (with_reducible first | exact HB.out | apply below_alloc | apply pw_below_drewN | apply below_drew1 | refine below_set ?_ GE538.out | refine below_set ?_ GE539.out | refine below_set ?_ GE540.out) | exact HB.out)⟩⟩
  case round =>
    clear H'
    try clear c2
    try clear p2
    try clear c5
    try clear c6
    try clear hcz7_0
    try clear hcz7_1
    try clear hcz7_2
    try clear hcz7_3
    try clear hfz7_0
    try clear hfz7_1
    try clear hfz7_2
    try clear hfz7_3
    obtain ⟨x13_1, x541000_1, u541000, rfl, HA, HK1, HO_541000, BK538, BK539, BK540, HB⟩ := hrel
    cases gk with
    | zero => exact absurd HA.out (by simp [ferrylaw04_far.l0])
    | succ k1 =>
      have H := HA.out
      clear HA
      simp only [ferrylaw04_far.l0] at H
      by_cases c8 : x13_1 < (l0_0.length : Int)
      · rw [if_pos c8] at H
        have c8b0 : decide (x13_1 < (l0_0.length : Int)) = true := decide_eq_true c8
        clear c8
        by_cases c9 : 0 ≤ x13_1
        · rw [if_pos c9] at H
          have c9b0 : decide (0 ≤ x13_1) = true := decide_eq_true c9
          clear c9
          by_cases c10 : x13_1 < (l0_0.length : Int)
          · rw [if_pos c10] at H
            have c10b0 : decide (x13_1 < (l0_0.length : Int)) = true := decide_eq_true c10
            clear c10
            by_cases c11 : (IntKind.u64.wrap (((rd_T55 l0_0 x13_1).f0) * 16384)) < a0_2
            · rw [if_pos c11] at H
              have c11b0 : decide ((IntKind.u64.wrap (((rd_T55 l0_0 x13_1).f0) * 16384)) < a0_2) = true := decide_eq_true c11
              clear c11
              by_cases c12 : x541000_1.length < 8796093022208
              · rw [if_pos c12] at H
                have LMc12 := Aside0.mk c12
                clear c12
                obtain ⟨y543, hy543⟩ : ∃ y_ : List (S55), y_ = (x541000_1 ++ [(⟨(rd_T55 l0_0 x13_1).f0, (rd_T55 l0_0 x13_1).f1⟩ : S55)]) := ⟨_, rfl⟩
                replace H : (ferrylaw04_far.l0 k1 l0_0 (l0_0.length : Int) (wrap64 (x13_1 + 1)) l0_0 l0_1 a0_2 l0_3 y543) = some (r1, r2) := by first | (rw [hy543]; with_reducible exact H) | (have H2_ := (Option.bind_some _ _).symm.trans H; rw [hy543]; with_reducible exact H2_) | (have H2_ := (Option.bind_some _ _).symm.trans H; with_reducible exact H2_) | with_reducible exact H | (rw [hy543]; exact H) | exact H
                have Ny543 := Aside0.mk hy543
                clear hy543
                have H' := Aside0.mk H
                clear H
                have p541 : 0 ≤ (x13_1 : Int) := of_decide_eq_true (by first | (with_reducible assumption) | assumption)
                have q541 : x13_1 < (l0_0.length : Int) := of_decide_eq_true (by first | (with_reducible assumption) | assumption)
                obtain ⟨ad541, e541, hx541_0, hx541_1⟩ := at_T55 HR0_0.out x13_1 p541 q541
                cases e541
                replace hx541_0 := (HB.out.cell (World.block_lt_of_cell? w _ hx541_0)).trans hx541_0
                replace hx541_1 := (HB.out.cell (World.block_lt_of_cell? w _ hx541_1)).trans hx541_1
                replace p541 := eq_true p541
                replace q541 := eq_true q541
                go_wp2_with (first | ((with_reducible refine gate_dst (N := 5) rfl ?_); refine box_event ?hg (N := 5) ?hd (cs := #[.int .u64 0, .int .i64 0]) (t := 55) ?hr ?_; (case hd => rfl); (case hg => rfl); (case hr => first | (go_simp; done) | (go_simp; rfl)); intro gb542 hg w13 hbox hb; have n0_ := Aside0.mk (Kd.R_below (Kd.R_elderB (rT_ HO_541000.out) gb542 (Nat.le_of_eq hg.symm)) hb); have n1_ := Aside0.mk (blk_below (g := gb538) (o := .cells #[.slice (some ad541) l0_0.length c0_0, .slice A0_1 l0_1.length c0_1, .int .u64 a0_2, .slice A0_3 l0_3.length c0_3] 29 (0, 0)) (bT_ BK538.out) hb); have n2_ := Aside0.mk (blk_below (g := gb539) (o := .cells #[.slice none 0 0, .slice none 0 0] 25 (0, 0)) (bT_ BK539.out) hb); have n3_ := Aside0.mk (blk_below (g := gb540) (o := .cells #[u541000, .slice none 0 0] 25 (0, 0)) (bT_ BK540.out) hb); have n4_ := Aside0.mk (below_step beT_ hb); have n5_ := Aside0.mk (hbox); have n6_ := Aside0.mk ((by rw [hg]; exact (below_size beT_) : w.heap.size ≤ gb542)); have n7_ := Aside0.mk ((by rw [hg]; exact (below_size beT_) : w.heap.size ≤ gb542)); have n8_ := Aside0.mk ((by rw [hg]; exact Nat.ne_of_lt (blk_lt (g := gb538) (o := .cells #[.slice (some ad541) l0_0.length c0_0, .slice A0_1 l0_1.length c0_1, .int .u64 a0_2, .slice A0_3 l0_3.length c0_3] 29 (0, 0)) (bT_ BK538.out)) : gb538 ≠ gb542)); have n9_ := Aside0.mk ((by rw [hg]; exact Nat.ne_of_gt (blk_lt (g := gb538) (o := .cells #[.slice (some ad541) l0_0.length c0_0, .slice A0_1 l0_1.length c0_1, .int .u64 a0_2, .slice A0_3 l0_3.length c0_3] 29 (0, 0)) (bT_ BK538.out)) : gb542 ≠ gb538)); have n10_ := Aside0.mk ((by rw [hg]; exact Nat.ne_of_lt (blk_lt (g := gb539) (o := .cells #[.slice none 0 0, .slice none 0 0] 25 (0, 0)) (bT_ BK539.out)) : gb539 ≠ gb542)); have n11_ := Aside0.mk ((by rw [hg]; exact Nat.ne_of_gt (blk_lt (g := gb539) (o := .cells #[.slice none 0 0, .slice none 0 0] 25 (0, 0)) (bT_ BK539.out)) : gb542 ≠ gb539)); have n12_ := Aside0.mk ((by rw [hg]; exact Nat.ne_of_lt (blk_lt (g := gb540) (o := .cells #[u541000, .slice none 0 0] 25 (0, 0)) (bT_ BK540.out)) : gb540 ≠ gb542)); have n13_ := Aside0.mk ((by rw [hg]; exact Nat.ne_of_gt (blk_lt (g := gb540) (o := .cells #[u541000, .slice none 0 0] 25 (0, 0)) (bT_ BK540.out)) : gb542 ≠ gb540)); clear HO_541000; clear BK538; clear BK539; clear BK540; clear HB; have HO_541000 := n0_; have BK538 := n1_; have BK539 := n2_; have BK540 := n3_; have HB := n4_; have BK542 := n5_; have GW542 := n6_; have GE542 := n7_; have NB538_542 := n8_; have NB542_538 := n9_; have NB539_542 := n10_; have NB542_539 := n11_; have NB540_542 := n12_; have NB542_540 := n13_; clear n0_ n1_ n2_ n3_ n4_ n5_ n6_ n7_ n8_ n9_ n10_ n11_ n12_ n13_; clear hb hbox hg; have hnb14 := NB542_538.out; have hnc14 := NB538_542.out; have hnb15 := NB542_539.out; have hnc15 := NB539_542.out; have hnb16 := NB542_540.out; have hnc16 := NB540_542.out; have hcz17_0 : w13.cell? ⟨gb542, 0, none⟩ = some (.int .u64 0) := (blk_cell BK542.out 0).trans rfl; have hcz17_1 : w13.cell? ⟨gb542, 1, none⟩ = some (.int .i64 0) := (blk_cell BK542.out 1).trans rfl; have hfz17_0 := blk_frozen BK542.out 0; have hfz17_1 := blk_frozen BK542.out 1; have hnb18 := NB538_539.out; have hnc18 := NB539_538.out; have hnb19 := NB538_540.out; have hnc19 := NB540_538.out; have hcz20_0 : w13.cell? ⟨gb538, 0, none⟩ = some (.slice (some ad541) l0_0.length c0_0) := (blk_cell BK538.out 0).trans rfl; have hcz20_1 : w13.cell? ⟨gb538, 1, none⟩ = some (.slice A0_1 l0_1.length c0_1) := (blk_cell BK538.out 1).trans rfl; have hcz20_2 : w13.cell? ⟨gb538, 2, none⟩ = some (.int .u64 a0_2) := (blk_cell BK538.out 2).trans rfl; have hcz20_3 : w13.cell? ⟨gb538, 3, none⟩ = some (.slice A0_3 l0_3.length c0_3) := (blk_cell BK538.out 3).trans rfl; have hfz20_0 := blk_frozen BK538.out 0; have hfz20_1 := blk_frozen BK538.out 1; have hfz20_2 := blk_frozen BK538.out 2; have hfz20_3 := blk_frozen BK538.out 3; have hnb21 := NB540_539.out; have hnc21 := NB539_540.out; have hcz22_0 : w13.cell? ⟨gb540, 0, none⟩ = some (u541000) := (blk_cell BK540.out 0).trans rfl; have hcz22_1 : w13.cell? ⟨gb540, 1, none⟩ = some (.slice none 0 0) := (blk_cell BK540.out 1).trans rfl; have hfz22_0 := blk_frozen BK540.out 0; have hfz22_1 := blk_frozen BK540.out 1) | ((with_reducible refine gate_builtin (b := .append) (xs := #[.tmp 32, .tmp 34]) rfl ?_); at_builtin; refine Kd.R_append k55 (w0 := w) w.heap.size rfl (.tmp 32) (.tmp 34) 22 55 (.agg #[(.int .u64 0), (.int .i64 0)]) 16 rfl Try.underlying22 info55 rfl (by decide) (by omega) u541000 x541000_1 (⟨(rd_T55 l0_0 x13_1).f0, (rd_T55 l0_0 x13_1).f1⟩ : S55) [.int .u64 ((rd_T55 l0_0 x13_1).f0), .int .i64 ((rd_T55 l0_0 x13_1).f1)] (fun k_ => k_ ≠ gb542) (fun _ => False) rfl (by first | (go_simp; done) | (go_simp; rfl)) ?aP (fun _ hk => hk.elim) ?aF ?aO ?aB ?aS ?aL ?_; (case aP => exact k55_mkM _ _ _ (⟨(rd_T55 l0_0 x13_1).f0, (rd_T55 l0_0 x13_1).f1⟩ : S55)); (case aB => exact beT_); (case aF => exact (fun k_ hk => Kd.freshB (g := gb542) (o := .cells #[.int .u64 ((rd_T55 l0_0 x13_1).f0), .int .i64 ((rd_T55 l0_0 x13_1).f1)] 55 (0, 0)) (by (with_reducible repeat (first | refine blk_drewN ?_ _ | refine blk_drew ?_ | refine blk_alloc ?_ _)); refine blk_put (cs := #[.int .u64 ((rd_T55 l0_0 x13_1).f0), .int .i64 0]) ?_ 1 _ rfl; (with_reducible repeat (first | refine blk_drewN ?_ _ | refine blk_drew ?_ | refine blk_alloc ?_ _)); refine blk_put (cs := #[.int .u64 0, .int .i64 0]) ?_ 0 _ rfl; (with_reducible repeat (first | refine blk_drewN ?_ _ | refine blk_drew ?_ | refine blk_alloc ?_ _)); exact BK542.out) k_ hk)); (case aO => exact (by (with_reducible repeat (first | apply Kd.R_alloc | apply Kd.R_drewN | apply Kd.R_drew)); exact Kd.R_mono (Kd.R_far (p := ⟨gb542, 1, none⟩) (Kd.R_far (p := ⟨gb542, 0, none⟩) (Kd.R_mono HO_541000.out (fun k_ hk => (⟨hk, by first | exact hk.2 | exact hk.2.1 | exact hk.2.2⟩ : _ ∧ k_ ≠ gb542))) (fun _ hk => hk.2) (.int .u64 ((rd_T55 l0_0 x13_1).f0))) (fun _ hk => hk.2) (.int .i64 ((rd_T55 l0_0 x13_1).f1))) (fun _ hk => hk.1.2))); (case aS => exact (below_size beT_)); (case aL => have := LMc12.out; omega); intro v544 w23 ho hb hg hat; rw [← Ny543.out] at ho; have n0_ := Aside0.mk (blk_grown (g := gb538) (o := .cells #[.slice (some ad541) l0_0.length c0_0, .slice A0_1 l0_1.length c0_1, .int .u64 a0_2, .slice A0_3 l0_3.length c0_3] 29 (0, 0)) (by (with_reducible repeat (first | refine blk_drewN ?_ _ | refine blk_drew ?_ | refine blk_alloc ?_ _)); refine blk_far ?_ NB538_542.out _; (with_reducible repeat (first | refine blk_drewN ?_ _ | refine blk_drew ?_ | refine blk_alloc ?_ _)); refine blk_far ?_ NB538_542.out _; (with_reducible repeat (first | refine blk_drewN ?_ _ | refine blk_drew ?_ | refine blk_alloc ?_ _)); exact BK538.out) hg (Kd.R_ne HO_541000.out BK538.out (by decide))); have n1_ := Aside0.mk (blk_grown (g := gb539) (o := .cells #[.slice none 0 0, .slice none 0 0] 25 (0, 0)) (by (with_reducible repeat (first | refine blk_drewN ?_ _ | refine blk_drew ?_ | refine blk_alloc ?_ _)); refine blk_far ?_ NB539_542.out _; (with_reducible repeat (first | refine blk_drewN ?_ _ | refine blk_drew ?_ | refine blk_alloc ?_ _)); refine blk_far ?_ NB539_542.out _; (with_reducible repeat (first | refine blk_drewN ?_ _ | refine blk_drew ?_ | refine blk_alloc ?_ _)); exact BK539.out) hg (Kd.R_ne HO_541000.out BK539.out (by decide))); have n2_ := Aside0.mk (blk_grown (g := gb540) (o := .cells #[u541000, .slice none 0 0] 25 (0, 0)) (by (with_reducible repeat (first | refine blk_drewN ?_ _ | refine blk_drew ?_ | refine blk_alloc ?_ _)); refine blk_far ?_ NB540_542.out _; (with_reducible repeat (first | refine blk_drewN ?_ _ | refine blk_drew ?_ | refine blk_alloc ?_ _)); refine blk_far ?_ NB540_542.out _; (with_reducible repeat (first | refine blk_drewN ?_ _ | refine blk_drew ?_ | refine blk_alloc ?_ _)); exact BK540.out) hg (Kd.R_ne HO_541000.out BK540.out (by decide))); have n3_ := Aside0.mk (blk_grown (g := gb542) (o := .cells #[.int .u64 ((rd_T55 l0_0 x13_1).f0), .int .i64 ((rd_T55 l0_0 x13_1).f1)] 55 (0, 0)) (by (with_reducible repeat (first | refine blk_drewN ?_ _ | refine blk_drew ?_ | refine blk_alloc ?_ _)); refine blk_put (cs := #[.int .u64 ((rd_T55 l0_0 x13_1).f0), .int .i64 0]) ?_ 1 _ rfl; (with_reducible repeat (first | refine blk_drewN ?_ _ | refine blk_drew ?_ | refine blk_alloc ?_ _)); refine blk_put (cs := #[.int .u64 0, .int .i64 0]) ?_ 0 _ rfl; (with_reducible repeat (first | refine blk_drewN ?_ _ | refine blk_drew ?_ | refine blk_alloc ?_ _)); exact BK542.out) hg (Kd.R_away HO_541000.out (fun _ hk => hk.2))); have n4_ := Aside0.mk (hb); have n5_ := Aside0.mk (ho); clear BK538; clear BK539; clear BK540; clear BK542; clear HB; clear HO_541000; have BK538 := n0_; have BK539 := n1_; have BK540 := n2_; have BK542 := n3_; have HB := n4_; have HO545 := n5_; clear n0_ n1_ n2_ n3_ n4_ n5_; clear ho hb hg hat; obtain ⟨Ao24, co24, eo24⟩ := Kd.R_slice HO545.out; subst eo24; have hcz25_0 : w23.cell? ⟨gb540, 0, none⟩ = some (u541000) := (blk_cell BK540.out 0).trans rfl; have hcz25_1 : w23.cell? ⟨gb540, 1, none⟩ = some (.slice none 0 0) := (blk_cell BK540.out 1).trans rfl; have hfz25_0 := blk_frozen BK540.out 0; have hfz25_1 := blk_frozen BK540.out 1))
                go_roundg k1
                case measure => have := HK1.out; omega
                case rel => exact ⟨(wrap64 (x13_1 + 1)), (y543), (.slice Ao24 y543.length co24), (by first | rfl | (simp; done) | (simp [*]; done)), H', ⟨by have := HK1.out; omega⟩, ⟨by (with_reducible repeat (first | apply Kd.R_alloc | apply Kd.R_drewN | apply Kd.R_drew)); exact Kd.R_mono (Kd.R_far (p := ⟨gb540, 0, none⟩) (Kd.R_types HO545.out BK540.out (by decide)) (fun _ hk => hk.2) (.slice Ao24 y543.length co24)) (fun _ hk => trivial)⟩, ⟨by (with_reducible repeat (first | refine blk_drewN ?_ _ | refine blk_drew ?_ | refine blk_alloc ?_ _)); refine blk_far ?_ NB538_540.out _; (with_reducible repeat (first | refine blk_drewN ?_ _ | refine blk_drew ?_ | refine blk_alloc ?_ _)); exact BK538.out⟩, ⟨by (with_reducible repeat (first | refine blk_drewN ?_ _ | refine blk_drew ?_ | refine blk_alloc ?_ _)); refine blk_far ?_ NB539_540.out _; (with_reducible repeat (first | refine blk_drewN ?_ _ | refine blk_drew ?_ | refine blk_alloc ?_ _)); exact BK539.out⟩, ⟨by (with_reducible repeat (first | refine blk_drewN ?_ _ | refine blk_drew ?_ | refine blk_alloc ?_ _)); refine blk_put (cs := #[u541000, .slice none 0 0]) ?_ 0 _ rfl; (with_reducible repeat (first | refine blk_drewN ?_ _ | refine blk_drew ?_ | refine blk_alloc ?_ _)); exact BK540.out⟩, ⟨by repeat (first | (with_reducible first | exact HB.out | apply below_alloc | apply pw_below_drewN | apply below_drew1 | refine below_set ?_ GE538.out | refine below_set ?_ GE539.out | refine below_set ?_ GE540.out | refine below_set ?_ GE542.out) | exact HB.out)⟩⟩
              rw [if_neg c12] at H
              exact absurd H (by simp)
            rw [if_neg c11] at H
            have c11b0 : decide ((IntKind.u64.wrap (((rd_T55 l0_0 x13_1).f0) * 16384)) < a0_2) = false := decide_eq_false c11
            clear c11
            by_cases c26 : (IntKind.u64.wrap ((IntKind.u64.wrap (((rd_T55 l0_0 x13_1).f0) * 16384)) - a0_2)) ≥ 4294967296
            · rw [if_pos c26] at H
              have c26b0 : decide (4294967296 ≤ (IntKind.u64.wrap ((IntKind.u64.wrap (((rd_T55 l0_0 x13_1).f0) * 16384)) - a0_2))) = true := decide_eq_true c26
              clear c26
              by_cases c27 : x541000_1.length < 8796093022208
              · rw [if_pos c27] at H
                have LMc27 := Aside0.mk c27
                clear c27
                obtain ⟨y546, hy546⟩ : ∃ y_ : List (S55), y_ = (x541000_1 ++ [(⟨(rd_T55 l0_0 x13_1).f0, (rd_T55 l0_0 x13_1).f1⟩ : S55)]) := ⟨_, rfl⟩
                replace H : (ferrylaw04_far.l0 k1 l0_0 (l0_0.length : Int) (wrap64 (x13_1 + 1)) l0_0 l0_1 a0_2 l0_3 y546) = some (r1, r2) := by first | (rw [hy546]; with_reducible exact H) | (have H2_ := (Option.bind_some _ _).symm.trans H; rw [hy546]; with_reducible exact H2_) | (have H2_ := (Option.bind_some _ _).symm.trans H; with_reducible exact H2_) | with_reducible exact H | (rw [hy546]; exact H) | exact H
                have Ny546 := Aside0.mk hy546
                clear hy546
                have H' := Aside0.mk H
                clear H
                have p541 : 0 ≤ (x13_1 : Int) := of_decide_eq_true (by first | (with_reducible assumption) | assumption)
                have q541 : x13_1 < (l0_0.length : Int) := of_decide_eq_true (by first | (with_reducible assumption) | assumption)
                obtain ⟨ad541, e541, hx541_0, hx541_1⟩ := at_T55 HR0_0.out x13_1 p541 q541
                cases e541
                replace hx541_0 := (HB.out.cell (World.block_lt_of_cell? w _ hx541_0)).trans hx541_0
                replace hx541_1 := (HB.out.cell (World.block_lt_of_cell? w _ hx541_1)).trans hx541_1
                replace p541 := eq_true p541
                replace q541 := eq_true q541
                go_wp2_with (first | ((with_reducible refine gate_dst (N := 5) rfl ?_); refine box_event ?hg (N := 5) ?hd (cs := #[.int .u64 0, .int .i64 0]) (t := 55) ?hr ?_; (case hd => rfl); (case hg => rfl); (case hr => first | (go_simp; done) | (go_simp; rfl)); intro gb542 hg w28 hbox hb; have n0_ := Aside0.mk (Kd.R_below (Kd.R_elderB (rT_ HO_541000.out) gb542 (Nat.le_of_eq hg.symm)) hb); have n1_ := Aside0.mk (blk_below (g := gb538) (o := .cells #[.slice (some ad541) l0_0.length c0_0, .slice A0_1 l0_1.length c0_1, .int .u64 a0_2, .slice A0_3 l0_3.length c0_3] 29 (0, 0)) (bT_ BK538.out) hb); have n2_ := Aside0.mk (blk_below (g := gb539) (o := .cells #[.slice none 0 0, .slice none 0 0] 25 (0, 0)) (bT_ BK539.out) hb); have n3_ := Aside0.mk (blk_below (g := gb540) (o := .cells #[u541000, .slice none 0 0] 25 (0, 0)) (bT_ BK540.out) hb); have n4_ := Aside0.mk (below_step beT_ hb); have n5_ := Aside0.mk (hbox); have n6_ := Aside0.mk ((by rw [hg]; exact (below_size beT_) : w.heap.size ≤ gb542)); have n7_ := Aside0.mk ((by rw [hg]; exact (below_size beT_) : w.heap.size ≤ gb542)); have n8_ := Aside0.mk ((by rw [hg]; exact Nat.ne_of_lt (blk_lt (g := gb538) (o := .cells #[.slice (some ad541) l0_0.length c0_0, .slice A0_1 l0_1.length c0_1, .int .u64 a0_2, .slice A0_3 l0_3.length c0_3] 29 (0, 0)) (bT_ BK538.out)) : gb538 ≠ gb542)); have n9_ := Aside0.mk ((by rw [hg]; exact Nat.ne_of_gt (blk_lt (g := gb538) (o := .cells #[.slice (some ad541) l0_0.length c0_0, .slice A0_1 l0_1.length c0_1, .int .u64 a0_2, .slice A0_3 l0_3.length c0_3] 29 (0, 0)) (bT_ BK538.out)) : gb542 ≠ gb538)); have n10_ := Aside0.mk ((by rw [hg]; exact Nat.ne_of_lt (blk_lt (g := gb539) (o := .cells #[.slice none 0 0, .slice none 0 0] 25 (0, 0)) (bT_ BK539.out)) : gb539 ≠ gb542)); have n11_ := Aside0.mk ((by rw [hg]; exact Nat.ne_of_gt (blk_lt (g := gb539) (o := .cells #[.slice none 0 0, .slice none 0 0] 25 (0, 0)) (bT_ BK539.out)) : gb542 ≠ gb539)); have n12_ := Aside0.mk ((by rw [hg]; exact Nat.ne_of_lt (blk_lt (g := gb540) (o := .cells #[u541000, .slice none 0 0] 25 (0, 0)) (bT_ BK540.out)) : gb540 ≠ gb542)); have n13_ := Aside0.mk ((by rw [hg]; exact Nat.ne_of_gt (blk_lt (g := gb540) (o := .cells #[u541000, .slice none 0 0] 25 (0, 0)) (bT_ BK540.out)) : gb542 ≠ gb540)); clear HO_541000; clear BK538; clear BK539; clear BK540; clear HB; have HO_541000 := n0_; have BK538 := n1_; have BK539 := n2_; have BK540 := n3_; have HB := n4_; have BK542 := n5_; have GW542 := n6_; have GE542 := n7_; have NB538_542 := n8_; have NB542_538 := n9_; have NB539_542 := n10_; have NB542_539 := n11_; have NB540_542 := n12_; have NB542_540 := n13_; clear n0_ n1_ n2_ n3_ n4_ n5_ n6_ n7_ n8_ n9_ n10_ n11_ n12_ n13_; clear hb hbox hg; have hnb29 := NB542_538.out; have hnc29 := NB538_542.out; have hnb30 := NB542_539.out; have hnc30 := NB539_542.out; have hnb31 := NB542_540.out; have hnc31 := NB540_542.out; have hcz32_0 : w28.cell? ⟨gb542, 0, none⟩ = some (.int .u64 0) := (blk_cell BK542.out 0).trans rfl; have hcz32_1 : w28.cell? ⟨gb542, 1, none⟩ = some (.int .i64 0) := (blk_cell BK542.out 1).trans rfl; have hfz32_0 := blk_frozen BK542.out 0; have hfz32_1 := blk_frozen BK542.out 1; have hnb33 := NB538_539.out; have hnc33 := NB539_538.out; have hnb34 := NB538_540.out; have hnc34 := NB540_538.out; have hcz35_0 : w28.cell? ⟨gb538, 0, none⟩ = some (.slice (some ad541) l0_0.length c0_0) := (blk_cell BK538.out 0).trans rfl; have hcz35_1 : w28.cell? ⟨gb538, 1, none⟩ = some (.slice A0_1 l0_1.length c0_1) := (blk_cell BK538.out 1).trans rfl; have hcz35_2 : w28.cell? ⟨gb538, 2, none⟩ = some (.int .u64 a0_2) := (blk_cell BK538.out 2).trans rfl; have hcz35_3 : w28.cell? ⟨gb538, 3, none⟩ = some (.slice A0_3 l0_3.length c0_3) := (blk_cell BK538.out 3).trans rfl; have hfz35_0 := blk_frozen BK538.out 0; have hfz35_1 := blk_frozen BK538.out 1; have hfz35_2 := blk_frozen BK538.out 2; have hfz35_3 := blk_frozen BK538.out 3; have hnb36 := NB540_539.out; have hnc36 := NB539_540.out; have hcz37_0 : w28.cell? ⟨gb540, 0, none⟩ = some (u541000) := (blk_cell BK540.out 0).trans rfl; have hcz37_1 : w28.cell? ⟨gb540, 1, none⟩ = some (.slice none 0 0) := (blk_cell BK540.out 1).trans rfl; have hfz37_0 := blk_frozen BK540.out 0; have hfz37_1 := blk_frozen BK540.out 1) | ((with_reducible refine gate_builtin (b := .append) (xs := #[.tmp 32, .tmp 34]) rfl ?_); at_builtin; refine Kd.R_append k55 (w0 := w) w.heap.size rfl (.tmp 32) (.tmp 34) 22 55 (.agg #[(.int .u64 0), (.int .i64 0)]) 16 rfl Try.underlying22 info55 rfl (by decide) (by omega) u541000 x541000_1 (⟨(rd_T55 l0_0 x13_1).f0, (rd_T55 l0_0 x13_1).f1⟩ : S55) [.int .u64 ((rd_T55 l0_0 x13_1).f0), .int .i64 ((rd_T55 l0_0 x13_1).f1)] (fun k_ => k_ ≠ gb542) (fun _ => False) rfl (by first | (go_simp; done) | (go_simp; rfl)) ?aP (fun _ hk => hk.elim) ?aF ?aO ?aB ?aS ?aL ?_; (case aP => exact k55_mkM _ _ _ (⟨(rd_T55 l0_0 x13_1).f0, (rd_T55 l0_0 x13_1).f1⟩ : S55)); (case aB => exact beT_); (case aF => exact (fun k_ hk => Kd.freshB (g := gb542) (o := .cells #[.int .u64 ((rd_T55 l0_0 x13_1).f0), .int .i64 ((rd_T55 l0_0 x13_1).f1)] 55 (0, 0)) (by (with_reducible repeat (first | refine blk_drewN ?_ _ | refine blk_drew ?_ | refine blk_alloc ?_ _)); refine blk_put (cs := #[.int .u64 ((rd_T55 l0_0 x13_1).f0), .int .i64 0]) ?_ 1 _ rfl; (with_reducible repeat (first | refine blk_drewN ?_ _ | refine blk_drew ?_ | refine blk_alloc ?_ _)); refine blk_put (cs := #[.int .u64 0, .int .i64 0]) ?_ 0 _ rfl; (with_reducible repeat (first | refine blk_drewN ?_ _ | refine blk_drew ?_ | refine blk_alloc ?_ _)); exact BK542.out) k_ hk)); (case aO => exact (by (with_reducible repeat (first | apply Kd.R_alloc | apply Kd.R_drewN | apply Kd.R_drew)); exact Kd.R_mono (Kd.R_far (p := ⟨gb542, 1, none⟩) (Kd.R_far (p := ⟨gb542, 0, none⟩) (Kd.R_mono HO_541000.out (fun k_ hk => (⟨hk, by first | exact hk.2 | exact hk.2.1 | exact hk.2.2⟩ : _ ∧ k_ ≠ gb542))) (fun _ hk => hk.2) (.int .u64 ((rd_T55 l0_0 x13_1).f0))) (fun _ hk => hk.2) (.int .i64 ((rd_T55 l0_0 x13_1).f1))) (fun _ hk => hk.1.2))); (case aS => exact (below_size beT_)); (case aL => have := LMc27.out; omega); intro v547 w38 ho hb hg hat; rw [← Ny546.out] at ho; have n0_ := Aside0.mk (blk_grown (g := gb538) (o := .cells #[.slice (some ad541) l0_0.length c0_0, .slice A0_1 l0_1.length c0_1, .int .u64 a0_2, .slice A0_3 l0_3.length c0_3] 29 (0, 0)) (by (with_reducible repeat (first | refine blk_drewN ?_ _ | refine blk_drew ?_ | refine blk_alloc ?_ _)); refine blk_far ?_ NB538_542.out _; (with_reducible repeat (first | refine blk_drewN ?_ _ | refine blk_drew ?_ | refine blk_alloc ?_ _)); refine blk_far ?_ NB538_542.out _; (with_reducible repeat (first | refine blk_drewN ?_ _ | refine blk_drew ?_ | refine blk_alloc ?_ _)); exact BK538.out) hg (Kd.R_ne HO_541000.out BK538.out (by decide))); have n1_ := Aside0.mk (blk_grown (g := gb539) (o := .cells #[.slice none 0 0, .slice none 0 0] 25 (0, 0)) (by (with_reducible repeat (first | refine blk_drewN ?_ _ | refine blk_drew ?_ | refine blk_alloc ?_ _)); refine blk_far ?_ NB539_542.out _; (with_reducible repeat (first | refine blk_drewN ?_ _ | refine blk_drew ?_ | refine blk_alloc ?_ _)); refine blk_far ?_ NB539_542.out _; (with_reducible repeat (first | refine blk_drewN ?_ _ | refine blk_drew ?_ | refine blk_alloc ?_ _)); exact BK539.out) hg (Kd.R_ne HO_541000.out BK539.out (by decide))); have n2_ := Aside0.mk (blk_grown (g := gb540) (o := .cells #[u541000, .slice none 0 0] 25 (0, 0)) (by (with_reducible repeat (first | refine blk_drewN ?_ _ | refine blk_drew ?_ | refine blk_alloc ?_ _)); refine blk_far ?_ NB540_542.out _; (with_reducible repeat (first | refine blk_drewN ?_ _ | refine blk_drew ?_ | refine blk_alloc ?_ _)); refine blk_far ?_ NB540_542.out _; (with_reducible repeat (first | refine blk_drewN ?_ _ | refine blk_drew ?_ | refine blk_alloc ?_ _)); exact BK540.out) hg (Kd.R_ne HO_541000.out BK540.out (by decide))); have n3_ := Aside0.mk (blk_grown (g := gb542) (o := .cells #[.int .u64 ((rd_T55 l0_0 x13_1).f0), .int .i64 ((rd_T55 l0_0 x13_1).f1)] 55 (0, 0)) (by (with_reducible repeat (first | refine blk_drewN ?_ _ | refine blk_drew ?_ | refine blk_alloc ?_ _)); refine blk_put (cs := #[.int .u64 ((rd_T55 l0_0 x13_1).f0), .int .i64 0]) ?_ 1 _ rfl; (with_reducible repeat (first | refine blk_drewN ?_ _ | refine blk_drew ?_ | refine blk_alloc ?_ _)); refine blk_put (cs := #[.int .u64 0, .int .i64 0]) ?_ 0 _ rfl; (with_reducible repeat (first | refine blk_drewN ?_ _ | refine blk_drew ?_ | refine blk_alloc ?_ _)); exact BK542.out) hg (Kd.R_away HO_541000.out (fun _ hk => hk.2))); have n4_ := Aside0.mk (hb); have n5_ := Aside0.mk (ho); clear BK538; clear BK539; clear BK540; clear BK542; clear HB; clear HO_541000; have BK538 := n0_; have BK539 := n1_; have BK540 := n2_; have BK542 := n3_; have HB := n4_; have HO548 := n5_; clear n0_ n1_ n2_ n3_ n4_ n5_; clear ho hb hg hat; obtain ⟨Ao39, co39, eo39⟩ := Kd.R_slice HO548.out; subst eo39; have hcz40_0 : w38.cell? ⟨gb540, 0, none⟩ = some (u541000) := (blk_cell BK540.out 0).trans rfl; have hcz40_1 : w38.cell? ⟨gb540, 1, none⟩ = some (.slice none 0 0) := (blk_cell BK540.out 1).trans rfl; have hfz40_0 := blk_frozen BK540.out 0; have hfz40_1 := blk_frozen BK540.out 1))
                go_roundg k1
                case measure => have := HK1.out; omega
                case rel => exact ⟨(wrap64 (x13_1 + 1)), (y546), (.slice Ao39 y546.length co39), (by first | rfl | (simp; done) | (simp [*]; done)), H', ⟨by have := HK1.out; omega⟩, ⟨by (with_reducible repeat (first | apply Kd.R_alloc | apply Kd.R_drewN | apply Kd.R_drew)); exact Kd.R_mono (Kd.R_far (p := ⟨gb540, 0, none⟩) (Kd.R_types HO548.out BK540.out (by decide)) (fun _ hk => hk.2) (.slice Ao39 y546.length co39)) (fun _ hk => trivial)⟩, ⟨by (with_reducible repeat (first | refine blk_drewN ?_ _ | refine blk_drew ?_ | refine blk_alloc ?_ _)); refine blk_far ?_ NB538_540.out _; (with_reducible repeat (first | refine blk_drewN ?_ _ | refine blk_drew ?_ | refine blk_alloc ?_ _)); exact BK538.out⟩, ⟨by (with_reducible repeat (first | refine blk_drewN ?_ _ | refine blk_drew ?_ | refine blk_alloc ?_ _)); refine blk_far ?_ NB539_540.out _; (with_reducible repeat (first | refine blk_drewN ?_ _ | refine blk_drew ?_ | refine blk_alloc ?_ _)); exact BK539.out⟩, ⟨by (with_reducible repeat (first | refine blk_drewN ?_ _ | refine blk_drew ?_ | refine blk_alloc ?_ _)); refine blk_put (cs := #[u541000, .slice none 0 0]) ?_ 0 _ rfl; (with_reducible repeat (first | refine blk_drewN ?_ _ | refine blk_drew ?_ | refine blk_alloc ?_ _)); exact BK540.out⟩, ⟨by repeat (first | (with_reducible first | exact HB.out | apply below_alloc | apply pw_below_drewN | apply below_drew1 | refine below_set ?_ GE538.out | refine below_set ?_ GE539.out | refine below_set ?_ GE540.out | refine below_set ?_ GE542.out) | exact HB.out)⟩⟩
              rw [if_neg c27] at H
              exact absurd H (by simp)
            rw [if_neg c26] at H
            have c26b0 : decide (4294967296 ≤ (IntKind.u64.wrap ((IntKind.u64.wrap (((rd_T55 l0_0 x13_1).f0) * 16384)) - a0_2))) = false := decide_eq_false c26
            clear c26
            have H' := Aside0.mk H
            clear H
            have p541 : 0 ≤ (x13_1 : Int) := of_decide_eq_true (by first | (with_reducible assumption) | assumption)
            have q541 : x13_1 < (l0_0.length : Int) := of_decide_eq_true (by first | (with_reducible assumption) | assumption)
            obtain ⟨ad541, e541, hx541_0, hx541_1⟩ := at_T55 HR0_0.out x13_1 p541 q541
            cases e541
            replace hx541_0 := (HB.out.cell (World.block_lt_of_cell? w _ hx541_0)).trans hx541_0
            replace hx541_1 := (HB.out.cell (World.block_lt_of_cell? w _ hx541_1)).trans hx541_1
            replace p541 := eq_true p541
            replace q541 := eq_true q541
            go_wp2_with (first | ((with_reducible refine gate_dst (N := 5) rfl ?_); refine box_event ?hg (N := 5) ?hd (cs := #[.int .u64 0, .int .i64 0]) (t := 55) ?hr ?_; (case hd => rfl); (case hg => rfl); (case hr => first | (go_simp; done) | (go_simp; rfl)); intro gb542 hg w41 hbox hb; have n0_ := Aside0.mk (Kd.R_below (Kd.R_elderB (rT_ HO_541000.out) gb542 (Nat.le_of_eq hg.symm)) hb); have n1_ := Aside0.mk (blk_below (g := gb538) (o := .cells #[.slice (some ad541) l0_0.length c0_0, .slice A0_1 l0_1.length c0_1, .int .u64 a0_2, .slice A0_3 l0_3.length c0_3] 29 (0, 0)) (bT_ BK538.out) hb); have n2_ := Aside0.mk (blk_below (g := gb539) (o := .cells #[.slice none 0 0, .slice none 0 0] 25 (0, 0)) (bT_ BK539.out) hb); have n3_ := Aside0.mk (blk_below (g := gb540) (o := .cells #[u541000, .slice none 0 0] 25 (0, 0)) (bT_ BK540.out) hb); have n4_ := Aside0.mk (below_step beT_ hb); have n5_ := Aside0.mk (hbox); have n6_ := Aside0.mk ((by rw [hg]; exact (below_size beT_) : w.heap.size ≤ gb542)); have n7_ := Aside0.mk ((by rw [hg]; exact (below_size beT_) : w.heap.size ≤ gb542)); have n8_ := Aside0.mk ((by rw [hg]; exact Nat.ne_of_lt (blk_lt (g := gb538) (o := .cells #[.slice (some ad541) l0_0.length c0_0, .slice A0_1 l0_1.length c0_1, .int .u64 a0_2, .slice A0_3 l0_3.length c0_3] 29 (0, 0)) (bT_ BK538.out)) : gb538 ≠ gb542)); have n9_ := Aside0.mk ((by rw [hg]; exact Nat.ne_of_gt (blk_lt (g := gb538) (o := .cells #[.slice (some ad541) l0_0.length c0_0, .slice A0_1 l0_1.length c0_1, .int .u64 a0_2, .slice A0_3 l0_3.length c0_3] 29 (0, 0)) (bT_ BK538.out)) : gb542 ≠ gb538)); have n10_ := Aside0.mk ((by rw [hg]; exact Nat.ne_of_lt (blk_lt (g := gb539) (o := .cells #[.slice none 0 0, .slice none 0 0] 25 (0, 0)) (bT_ BK539.out)) : gb539 ≠ gb542)); have n11_ := Aside0.mk ((by rw [hg]; exact Nat.ne_of_gt (blk_lt (g := gb539) (o := .cells #[.slice none 0 0, .slice none 0 0] 25 (0, 0)) (bT_ BK539.out)) : gb542 ≠ gb539)); have n12_ := Aside0.mk ((by rw [hg]; exact Nat.ne_of_lt (blk_lt (g := gb540) (o := .cells #[u541000, .slice none 0 0] 25 (0, 0)) (bT_ BK540.out)) : gb540 ≠ gb542)); have n13_ := Aside0.mk ((by rw [hg]; exact Nat.ne_of_gt (blk_lt (g := gb540) (o := .cells #[u541000, .slice none 0 0] 25 (0, 0)) (bT_ BK540.out)) : gb542 ≠ gb540)); clear HO_541000; clear BK538; clear BK539; clear BK540; clear HB; have HO_541000 := n0_; have BK538 := n1_; have BK539 := n2_; have BK540 := n3_; have HB := n4_; have BK542 := n5_; have GW542 := n6_; have GE542 := n7_; have NB538_542 := n8_; have NB542_538 := n9_; have NB539_542 := n10_; have NB542_539 := n11_; have NB540_542 := n12_; have NB542_540 := n13_; clear n0_ n1_ n2_ n3_ n4_ n5_ n6_ n7_ n8_ n9_ n10_ n11_ n12_ n13_; clear hb hbox hg; have hnb42 := NB542_538.out; have hnc42 := NB538_542.out; have hnb43 := NB542_539.out; have hnc43 := NB539_542.out; have hnb44 := NB542_540.out; have hnc44 := NB540_542.out; have hcz45_0 : w41.cell? ⟨gb542, 0, none⟩ = some (.int .u64 0) := (blk_cell BK542.out 0).trans rfl; have hcz45_1 : w41.cell? ⟨gb542, 1, none⟩ = some (.int .i64 0) := (blk_cell BK542.out 1).trans rfl; have hfz45_0 := blk_frozen BK542.out 0; have hfz45_1 := blk_frozen BK542.out 1; have hnb46 := NB538_539.out; have hnc46 := NB539_538.out; have hnb47 := NB538_540.out; have hnc47 := NB540_538.out; have hcz48_0 : w41.cell? ⟨gb538, 0, none⟩ = some (.slice (some ad541) l0_0.length c0_0) := (blk_cell BK538.out 0).trans rfl; have hcz48_1 : w41.cell? ⟨gb538, 1, none⟩ = some (.slice A0_1 l0_1.length c0_1) := (blk_cell BK538.out 1).trans rfl; have hcz48_2 : w41.cell? ⟨gb538, 2, none⟩ = some (.int .u64 a0_2) := (blk_cell BK538.out 2).trans rfl; have hcz48_3 : w41.cell? ⟨gb538, 3, none⟩ = some (.slice A0_3 l0_3.length c0_3) := (blk_cell BK538.out 3).trans rfl; have hfz48_0 := blk_frozen BK538.out 0; have hfz48_1 := blk_frozen BK538.out 1; have hfz48_2 := blk_frozen BK538.out 2; have hfz48_3 := blk_frozen BK538.out 3))
            go_roundg k1
            case measure => have := HK1.out; omega
            case rel => exact ⟨(wrap64 (x13_1 + 1)), (x541000_1), (u541000), (by first | rfl | (simp; done) | (simp [*]; done)), H', ⟨by have := HK1.out; omega⟩, ⟨by (with_reducible repeat (first | apply Kd.R_alloc | apply Kd.R_drewN | apply Kd.R_drew)); exact Kd.R_mono (Kd.R_far (p := ⟨gb542, 1, none⟩) (Kd.R_far (p := ⟨gb542, 0, none⟩) (Kd.R_mono HO_541000.out (fun k_ hk => (⟨hk, by first | exact hk.2 | exact hk.2.1 | exact hk.2.2⟩ : _ ∧ k_ ≠ gb542))) (fun _ hk => hk.2) (.int .u64 ((rd_T55 l0_0 x13_1).f0))) (fun _ hk => hk.2) (.int .i64 ((rd_T55 l0_0 x13_1).f1))) (fun _ hk => trivial)⟩, ⟨by (with_reducible repeat (first | refine blk_drewN ?_ _ | refine blk_drew ?_ | refine blk_alloc ?_ _)); refine blk_far ?_ NB538_542.out _; (with_reducible repeat (first | refine blk_drewN ?_ _ | refine blk_drew ?_ | refine blk_alloc ?_ _)); refine blk_far ?_ NB538_542.out _; (with_reducible repeat (first | refine blk_drewN ?_ _ | refine blk_drew ?_ | refine blk_alloc ?_ _)); exact BK538.out⟩, ⟨by (with_reducible repeat (first | refine blk_drewN ?_ _ | refine blk_drew ?_ | refine blk_alloc ?_ _)); refine blk_far ?_ NB539_542.out _; (with_reducible repeat (first | refine blk_drewN ?_ _ | refine blk_drew ?_ | refine blk_alloc ?_ _)); refine blk_far ?_ NB539_542.out _; (with_reducible repeat (first | refine blk_drewN ?_ _ | refine blk_drew ?_ | refine blk_alloc ?_ _)); exact BK539.out⟩, ⟨by (with_reducible repeat (first | refine blk_drewN ?_ _ | refine blk_drew ?_ | refine blk_alloc ?_ _)); refine blk_far ?_ NB540_542.out _; (with_reducible repeat (first | refine blk_drewN ?_ _ | refine blk_drew ?_ | refine blk_alloc ?_ _)); refine blk_far ?_ NB540_542.out _; (with_reducible repeat (first | refine blk_drewN ?_ _ | refine blk_drew ?_ | refine blk_alloc ?_ _)); exact BK540.out⟩, ⟨by repeat (first | (with_reducible first | exact HB.out | apply below_alloc | apply pw_below_drewN | apply below_drew1 | refine below_set ?_ GE538.out | refine below_set ?_ GE539.out | refine below_set ?_ GE540.out | refine below_set ?_ GE542.out) | exact HB.out)⟩⟩
          rw [if_neg c10] at H
          exact absurd H (by simp)
        rw [if_neg c9] at H
        exact absurd H (by simp)
      rw [if_neg c8] at H
      have c8b0 : decide (x13_1 < (l0_0.length : Int)) = false := decide_eq_false c8
      clear c8
      have H' := Aside0.mk H
      clear H
      have hnb49 := NB538_539.out
      have hnc49 := NB539_538.out
      have hnb50 := NB538_540.out
      have hnc50 := NB540_538.out
      have hcz51_0 : wr.cell? ⟨gb538, 0, none⟩ = some (.slice A0_0 l0_0.length c0_0) := (blk_cell BK538.out 0).trans rfl
      have hcz51_1 : wr.cell? ⟨gb538, 1, none⟩ = some (.slice A0_1 l0_1.length c0_1) := (blk_cell BK538.out 1).trans rfl
      have hcz51_2 : wr.cell? ⟨gb538, 2, none⟩ = some (.int .u64 a0_2) := (blk_cell BK538.out 2).trans rfl
      have hcz51_3 : wr.cell? ⟨gb538, 3, none⟩ = some (.slice A0_3 l0_3.length c0_3) := (blk_cell BK538.out 3).trans rfl
      have hfz51_0 := blk_frozen BK538.out 0
      have hfz51_1 := blk_frozen BK538.out 1
      have hfz51_2 := blk_frozen BK538.out 2
      have hfz51_3 := blk_frozen BK538.out 3
      go_wp2
      go_loopg [42] k1 (fun kq v42 w' => ∃ (x42_2 : Int) (x541001_2 : List (S60)) (u541001 : Value), v42 = .int .i64 x42_2 ∧ Aside0 (ferrylaw04_far.l1 kq l0_1 (l0_1.length : Int) x42_2 l0_0 l0_1 a0_2 l0_3 x541000_1 x541001_2 = some (r1, r2)) ∧ Aside0 (kq ≤ k1) ∧ Aside0 (Kd.R k55 55 w' w.heap.size (fun _ => True) u541000 x541000_1) ∧ Aside0 (Kd.R k60 60 w' w.heap.size (fun _ => True) u541001 x541001_2) ∧ Aside0 (w'.heap[gb538]? = some (.cells #[(.slice A0_0 l0_0.length c0_0), (.slice A0_1 l0_1.length c0_1), .int .u64 a0_2, (.slice A0_3 l0_3.length c0_3)] 29 (0, 0))) ∧ Aside0 (w'.heap[gb539]? = some (.cells #[(.slice none 0 0), (.slice none 0 0)] 25 (0, 0))) ∧ Aside0 (w'.heap[gb540]? = some (.cells #[u541000, u541001] 25 (0, 0))) ∧ Aside0 (Below w.heap.size w w'))
      case atStart => exact ⟨(0), (([] : List (S60))), (.slice none 0 0), (by first | rfl | (simp; done) | (simp [*]; done)), H', ⟨Nat.le_refl _⟩, ⟨by (with_reducible repeat (first | apply Kd.R_alloc | apply Kd.R_drewN | apply Kd.R_drew)); exact HO_541000.out⟩, ⟨by first | exact Kd.R_nil _ _ _ _ _ | exact Kd.N_nil _ _ _ _ _ | exact Kd.V_nil _ _ _ _ _ | exact Kd.Q_nil _ _ _ _ _ | exact Kd.S_nil _ _ _ _ _⟩, ⟨by (with_reducible repeat (first | refine blk_drewN ?_ _ | refine blk_drew ?_ | refine blk_alloc ?_ _)); exact BK538.out⟩, ⟨by (with_reducible repeat (first | refine blk_drewN ?_ _ | refine blk_drew ?_ | refine blk_alloc ?_ _)); exact BK539.out⟩, ⟨by (with_reducible repeat (first | refine blk_drewN ?_ _ | refine blk_drew ?_ | refine blk_alloc ?_ _)); exact BK540.out⟩, ⟨by repeat (first | (with_reducible first | exact HB.out | apply below_alloc | apply pw_below_drewN | apply below_drew1 | refine below_set ?_ GE538.out | refine below_set ?_ GE539.out | refine below_set ?_ GE540.out) | exact HB.out)⟩⟩
      case round =>
        clear H'
        try clear c1
        try clear c2
        try clear p2
        try clear c3
        try clear c4
        try clear c5
        try clear p5
        try clear q5
        try clear hx5
        try clear c6
        try clear p6
        try clear c8
        try clear c8b0
        try clear c9
        try clear c9b0
        try clear c10
        try clear c10b0
        try clear c11
        try clear c11b0
        try clear c12
        try clear c14
        try clear c15
        try clear c16
        try clear c18
        try clear c19
        try clear c21
        try clear c22
        try clear c26
        try clear c26b0
        try clear c27
        try clear c29
        try clear c30
        try clear c31
        try clear c33
        try clear c34
        try clear c36
        try clear c42
        try clear c43
        try clear c44
        try clear c46
        try clear c47
        try clear c49
        try clear c50
        try clear hcz17_0
        try clear hcz17_1
        try clear hcz20_0
        try clear hcz20_1
        try clear hcz20_2
        try clear hcz20_3
        try clear hcz22_0
        try clear hcz22_1
        try clear hcz25_0
        try clear hcz25_1
        try clear hcz32_0
        try clear hcz32_1
        try clear hcz35_0
        try clear hcz35_1
        try clear hcz35_2
        try clear hcz35_3
        try clear hcz37_0
        try clear hcz37_1
        try clear hcz40_0
        try clear hcz40_1
        try clear hcz45_0
        try clear hcz45_1
        try clear hcz48_0
        try clear hcz48_1
        try clear hcz48_2
        try clear hcz48_3
        try clear hcz51_0
        try clear hcz51_1
        try clear hcz51_2
        try clear hcz51_3
        try clear hcz7_0
        try clear hcz7_1
        try clear hcz7_2
        try clear hcz7_3
        try clear hfz17_0
        try clear hfz17_1
        try clear hfz20_0
        try clear hfz20_1
        try clear hfz20_2
        try clear hfz20_3
        try clear hfz22_0
        try clear hfz22_1
        try clear hfz25_0
        try clear hfz25_1
        try clear hfz32_0
        try clear hfz32_1
        try clear hfz35_0
        try clear hfz35_1
        try clear hfz35_2
        try clear hfz35_3
        try clear hfz37_0
        try clear hfz37_1
        try clear hfz40_0
        try clear hfz40_1
        try clear hfz45_0
        try clear hfz45_1
        try clear hfz48_0
        try clear hfz48_1
        try clear hfz48_2
        try clear hfz48_3
        try clear hfz51_0
        try clear hfz51_1
        try clear hfz51_2
        try clear hfz51_3
        try clear hfz7_0
        try clear hfz7_1
        try clear hfz7_2
        try clear hfz7_3
        try clear hx541_0
        try clear hx541_1
        try clear p2
        try clear p541
        try clear q541
        obtain ⟨x42_2, x541001_2, u541001, rfl, HA, HK2, HO_541000, HO_541001, BK538, BK539, BK540, HB⟩ := hrel
        cases gk with
        | zero => exact absurd HA.out (by simp [ferrylaw04_far.l1])
        | succ k2 =>
          have H := HA.out
          clear HA
          simp only [ferrylaw04_far.l1] at H
          by_cases c52 : x42_2 < (l0_1.length : Int)
          · rw [if_pos c52] at H
            have c52b0 : decide (x42_2 < (l0_1.length : Int)) = true := decide_eq_true c52
            clear c52
            by_cases c53 : 0 ≤ x42_2
            · rw [if_pos c53] at H
              have c53b0 : decide (0 ≤ x42_2) = true := decide_eq_true c53
              clear c53
              by_cases c54 : x42_2 < (l0_1.length : Int)
              · rw [if_pos c54] at H
                have c54b0 : decide (x42_2 < (l0_1.length : Int)) = true := decide_eq_true c54
                clear c54
                by_cases c55 : ((rd_T60 l0_1 x42_2).f0) < a0_2
                · rw [if_pos c55] at H
                  have c55b0 : decide (((rd_T60 l0_1 x42_2).f0) < a0_2) = true := decide_eq_true c55
                  clear c55
                  by_cases c56 : x541001_2.length < 8796093022208
                  · rw [if_pos c56] at H
                    have LMc56 := Aside0.mk c56
                    clear c56
                    obtain ⟨y551, hy551⟩ : ∃ y_ : List (S60), y_ = (x541001_2 ++ [(⟨(rd_T60 l0_1 x42_2).f0, (rd_T60 l0_1 x42_2).f1⟩ : S60)]) := ⟨_, rfl⟩
                    replace H : (ferrylaw04_far.l1 k2 l0_1 (l0_1.length : Int) (wrap64 (x42_2 + 1)) l0_0 l0_1 a0_2 l0_3 x541000_1 y551) = some (r1, r2) := by first | (rw [hy551]; with_reducible exact H) | (have H2_ := (Option.bind_some _ _).symm.trans H; rw [hy551]; with_reducible exact H2_) | (have H2_ := (Option.bind_some _ _).symm.trans H; with_reducible exact H2_) | with_reducible exact H | (rw [hy551]; exact H) | exact H
                    have Ny551 := Aside0.mk hy551
                    clear hy551
                    have H' := Aside0.mk H
                    clear H
                    have p549 : 0 ≤ (x42_2 : Int) := of_decide_eq_true (by first | (with_reducible assumption) | assumption)
                    have q549 : x42_2 < (l0_1.length : Int) := of_decide_eq_true (by first | (with_reducible assumption) | assumption)
                    obtain ⟨ad549, e549, hx549_0, hx549_1⟩ := at_T60 HR0_1.out x42_2 p549 q549
                    cases e549
                    replace hx549_0 := (HB.out.cell (World.block_lt_of_cell? w _ hx549_0)).trans hx549_0
                    replace hx549_1 := (HB.out.cell (World.block_lt_of_cell? w _ hx549_1)).trans hx549_1
                    replace p549 := eq_true p549
                    replace q549 := eq_true q549
                    go_wp2_with (first | ((with_reducible refine gate_dst (N := 8) rfl ?_); refine box_event ?hg (N := 8) ?hd (cs := #[.int .u64 0, .int .u64 0]) (t := 60) ?hr ?_; (case hd => rfl); (case hg => rfl); (case hr => first | (go_simp; done) | (go_simp; rfl)); intro gb550 hg w57 hbox hb; have n0_ := Aside0.mk (Kd.R_below (rT_ HO_541000.out) hb); have n1_ := Aside0.mk (Kd.R_below (Kd.R_elderB (rT_ HO_541001.out) gb550 (Nat.le_of_eq hg.symm)) hb); have n2_ := Aside0.mk (blk_below (g := gb538) (o := .cells #[.slice A0_0 l0_0.length c0_0, .slice (some ad549) l0_1.length c0_1, .int .u64 a0_2, .slice A0_3 l0_3.length c0_3] 29 (0, 0)) (bT_ BK538.out) hb); have n3_ := Aside0.mk (blk_below (g := gb539) (o := .cells #[.slice none 0 0, .slice none 0 0] 25 (0, 0)) (bT_ BK539.out) hb); have n4_ := Aside0.mk (blk_below (g := gb540) (o := .cells #[u541000, u541001] 25 (0, 0)) (bT_ BK540.out) hb); have n5_ := Aside0.mk (below_step beT_ hb); have n6_ := Aside0.mk (hbox); have n7_ := Aside0.mk ((by rw [hg]; exact (below_size beT_) : w.heap.size ≤ gb550)); have n8_ := Aside0.mk ((by rw [hg]; exact (below_size beT_) : w.heap.size ≤ gb550)); have n9_ := Aside0.mk ((by rw [hg]; exact Nat.ne_of_lt (blk_lt (g := gb538) (o := .cells #[.slice A0_0 l0_0.length c0_0, .slice (some ad549) l0_1.length c0_1, .int .u64 a0_2, .slice A0_3 l0_3.length c0_3] 29 (0, 0)) (bT_ BK538.out)) : gb538 ≠ gb550)); have n10_ := Aside0.mk ((by rw [hg]; exact Nat.ne_of_gt (blk_lt (g := gb538) (o := .cells #[.slice A0_0 l0_0.length c0_0, .slice (some ad549) l0_1.length c0_1, .int .u64 a0_2, .slice A0_3 l0_3.length c0_3] 29 (0, 0)) (bT_ BK538.out)) : gb550 ≠ gb538)); have n11_ := Aside0.mk ((by rw [hg]; exact Nat.ne_of_lt (blk_lt (g := gb539) (o := .cells #[.slice none 0 0, .slice none 0 0] 25 (0, 0)) (bT_ BK539.out)) : gb539 ≠ gb550)); have n12_ := Aside0.mk ((by rw [hg]; exact Nat.ne_of_gt (blk_lt (g := gb539) (o := .cells #[.slice none 0 0, .slice none 0 0] 25 (0, 0)) (bT_ BK539.out)) : gb550 ≠ gb539)); have n13_ := Aside0.mk ((by rw [hg]; exact Nat.ne_of_lt (blk_lt (g := gb540) (o := .cells #[u541000, u541001] 25 (0, 0)) (bT_ BK540.out)) : gb540 ≠ gb550)); have n14_ := Aside0.mk ((by rw [hg]; exact Nat.ne_of_gt (blk_lt (g := gb540) (o := .cells #[u541000, u541001] 25 (0, 0)) (bT_ BK540.out)) : gb550 ≠ gb540)); clear HO_541000; clear HO_541001; clear BK538; clear BK539; clear BK540; clear HB; have HO_541000 := n0_; have HO_541001 := n1_; have BK538 := n2_; have BK539 := n3_; have BK540 := n4_; have HB := n5_; have BK550 := n6_; have GW550 := n7_; have GE550 := n8_; have NB538_550 := n9_; have NB550_538 := n10_; have NB539_550 := n11_; have NB550_539 := n12_; have NB540_550 := n13_; have NB550_540 := n14_; clear n0_ n1_ n2_ n3_ n4_ n5_ n6_ n7_ n8_ n9_ n10_ n11_ n12_ n13_ n14_; clear hb hbox hg; have hnb58 := NB550_538.out; have hnc58 := NB538_550.out; have hnb59 := NB550_539.out; have hnc59 := NB539_550.out; have hnb60 := NB550_540.out; have hnc60 := NB540_550.out; have hcz61_0 : w57.cell? ⟨gb550, 0, none⟩ = some (.int .u64 0) := (blk_cell BK550.out 0).trans rfl; have hcz61_1 : w57.cell? ⟨gb550, 1, none⟩ = some (.int .u64 0) := (blk_cell BK550.out 1).trans rfl; have hfz61_0 := blk_frozen BK550.out 0; have hfz61_1 := blk_frozen BK550.out 1; have hnb62 := NB538_539.out; have hnc62 := NB539_538.out; have hnb63 := NB538_540.out; have hnc63 := NB540_538.out; have hcz64_0 : w57.cell? ⟨gb538, 0, none⟩ = some (.slice A0_0 l0_0.length c0_0) := (blk_cell BK538.out 0).trans rfl; have hcz64_1 : w57.cell? ⟨gb538, 1, none⟩ = some (.slice (some ad549) l0_1.length c0_1) := (blk_cell BK538.out 1).trans rfl; have hcz64_2 : w57.cell? ⟨gb538, 2, none⟩ = some (.int .u64 a0_2) := (blk_cell BK538.out 2).trans rfl; have hcz64_3 : w57.cell? ⟨gb538, 3, none⟩ = some (.slice A0_3 l0_3.length c0_3) := (blk_cell BK538.out 3).trans rfl; have hfz64_0 := blk_frozen BK538.out 0; have hfz64_1 := blk_frozen BK538.out 1; have hfz64_2 := blk_frozen BK538.out 2; have hfz64_3 := blk_frozen BK538.out 3; have hnb65 := NB540_539.out; have hnc65 := NB539_540.out; have hcz66_0 : w57.cell? ⟨gb540, 0, none⟩ = some (u541000) := (blk_cell BK540.out 0).trans rfl; have hcz66_1 : w57.cell? ⟨gb540, 1, none⟩ = some (u541001) := (blk_cell BK540.out 1).trans rfl; have hfz66_0 := blk_frozen BK540.out 0; have hfz66_1 := blk_frozen BK540.out 1) | ((with_reducible refine gate_builtin (b := .append) (xs := #[.tmp 60, .tmp 62]) rfl ?_); at_builtin; refine Kd.R_append k60 (w0 := w) w.heap.size rfl (.tmp 60) (.tmp 62) 23 60 (.agg #[(.int .u64 0), (.int .u64 0)]) 16 rfl Try.underlying23 info60 rfl (by decide) (by omega) u541001 x541001_2 (⟨(rd_T60 l0_1 x42_2).f0, (rd_T60 l0_1 x42_2).f1⟩ : S60) [.int .u64 ((rd_T60 l0_1 x42_2).f0), .int .u64 ((rd_T60 l0_1 x42_2).f1)] (fun k_ => k_ ≠ gb550) (fun _ => False) rfl (by first | (go_simp; done) | (go_simp; rfl)) ?aP (fun _ hk => hk.elim) ?aF ?aO ?aB ?aS ?aL ?_; (case aP => exact k60_mkM _ _ _ (⟨(rd_T60 l0_1 x42_2).f0, (rd_T60 l0_1 x42_2).f1⟩ : S60)); (case aB => exact beT_); (case aF => exact (fun k_ hk => Kd.freshB (g := gb550) (o := .cells #[.int .u64 ((rd_T60 l0_1 x42_2).f0), .int .u64 ((rd_T60 l0_1 x42_2).f1)] 60 (0, 0)) (by (with_reducible repeat (first | refine blk_drewN ?_ _ | refine blk_drew ?_ | refine blk_alloc ?_ _)); refine blk_put (cs := #[.int .u64 ((rd_T60 l0_1 x42_2).f0), .int .u64 0]) ?_ 1 _ rfl; (with_reducible repeat (first | refine blk_drewN ?_ _ | refine blk_drew ?_ | refine blk_alloc ?_ _)); refine blk_put (cs := #[.int .u64 0, .int .u64 0]) ?_ 0 _ rfl; (with_reducible repeat (first | refine blk_drewN ?_ _ | refine blk_drew ?_ | refine blk_alloc ?_ _)); exact BK550.out) k_ hk)); (case aO => exact (by (with_reducible repeat (first | apply Kd.R_alloc | apply Kd.R_drewN | apply Kd.R_drew)); exact Kd.R_mono (Kd.R_far (p := ⟨gb550, 1, none⟩) (Kd.R_far (p := ⟨gb550, 0, none⟩) (Kd.R_mono HO_541001.out (fun k_ hk => (⟨hk, by first | exact hk.2 | exact hk.2.1 | exact hk.2.2⟩ : _ ∧ k_ ≠ gb550))) (fun _ hk => hk.2) (.int .u64 ((rd_T60 l0_1 x42_2).f0))) (fun _ hk => hk.2) (.int .u64 ((rd_T60 l0_1 x42_2).f1))) (fun _ hk => hk.1.2))); (case aS => exact (below_size beT_)); (case aL => have := LMc56.out; omega); intro v552 w67 ho hb hg hat; rw [← Ny551.out] at ho; have n0_ := Aside0.mk (Kd.R_over' (by (with_reducible repeat (first | apply Kd.R_alloc | apply Kd.R_drewN | apply Kd.R_drew)); exact (Kd.R_mono (Kd.R_far (p := ⟨gb550, 1, none⟩) (Kd.R_far (p := ⟨gb550, 0, none⟩) (Kd.R_types HO_541000.out BK550.out (by decide)) (fun _ hk => hk.2) (.int .u64 ((rd_T60 l0_1 x42_2).f0))) (fun _ hk => hk.2) (.int .u64 ((rd_T60 l0_1 x42_2).f1))) (fun _ h_ => h_.1))) (Kd.R_typed (by (with_reducible repeat (first | apply Kd.R_alloc | apply Kd.R_drewN | apply Kd.R_drew)); exact (Kd.R_mono (Kd.R_far (p := ⟨gb550, 1, none⟩) (Kd.R_far (p := ⟨gb550, 0, none⟩) (Kd.R_mono HO_541001.out (fun k_ hk => (⟨hk, by first | exact hk.2 | exact hk.2.1 | exact hk.2.2⟩ : _ ∧ k_ ≠ gb550))) (fun _ hk => hk.2) (.int .u64 ((rd_T60 l0_1 x42_2).f0))) (fun _ hk => hk.2) (.int .u64 ((rd_T60 l0_1 x42_2).f1))) (fun _ h_ => h_.1)))) (by decide) hg); have n1_ := Aside0.mk (blk_grown (g := gb538) (o := .cells #[.slice A0_0 l0_0.length c0_0, .slice (some ad549) l0_1.length c0_1, .int .u64 a0_2, .slice A0_3 l0_3.length c0_3] 29 (0, 0)) (by (with_reducible repeat (first | refine blk_drewN ?_ _ | refine blk_drew ?_ | refine blk_alloc ?_ _)); refine blk_far ?_ NB538_550.out _; (with_reducible repeat (first | refine blk_drewN ?_ _ | refine blk_drew ?_ | refine blk_alloc ?_ _)); refine blk_far ?_ NB538_550.out _; (with_reducible repeat (first | refine blk_drewN ?_ _ | refine blk_drew ?_ | refine blk_alloc ?_ _)); exact BK538.out) hg (Kd.R_ne HO_541001.out BK538.out (by decide))); have n2_ := Aside0.mk (blk_grown (g := gb539) (o := .cells #[.slice none 0 0, .slice none 0 0] 25 (0, 0)) (by (with_reducible repeat (first | refine blk_drewN ?_ _ | refine blk_drew ?_ | refine blk_alloc ?_ _)); refine blk_far ?_ NB539_550.out _; (with_reducible repeat (first | refine blk_drewN ?_ _ | refine blk_drew ?_ | refine blk_alloc ?_ _)); refine blk_far ?_ NB539_550.out _; (with_reducible repeat (first | refine blk_drewN ?_ _ | refine blk_drew ?_ | refine blk_alloc ?_ _)); exact BK539.out) hg (Kd.R_ne HO_541001.out BK539.out (by decide))); have n3_ := Aside0.mk (blk_grown (g := gb540) (o := .cells #[u541000, u541001] 25 (0, 0)) (by (with_reducible repeat (first | refine blk_drewN ?_ _ | refine blk_drew ?_ | refine blk_alloc ?_ _)); refine blk_far ?_ NB540_550.out _; (with_reducible repeat (first | refine blk_drewN ?_ _ | refine blk_drew ?_ | refine blk_alloc ?_ _)); refine blk_far ?_ NB540_550.out _; (with_reducible repeat (first | refine blk_drewN ?_ _ | refine blk_drew ?_ | refine blk_alloc ?_ _)); exact BK540.out) hg (Kd.R_ne HO_541001.out BK540.out (by decide))); have n4_ := Aside0.mk (blk_grown (g := gb550) (o := .cells #[.int .u64 ((rd_T60 l0_1 x42_2).f0), .int .u64 ((rd_T60 l0_1 x42_2).f1)] 60 (0, 0)) (by (with_reducible repeat (first | refine blk_drewN ?_ _ | refine blk_drew ?_ | refine blk_alloc ?_ _)); refine blk_put (cs := #[.int .u64 ((rd_T60 l0_1 x42_2).f0), .int .u64 0]) ?_ 1 _ rfl; (with_reducible repeat (first | refine blk_drewN ?_ _ | refine blk_drew ?_ | refine blk_alloc ?_ _)); refine blk_put (cs := #[.int .u64 0, .int .u64 0]) ?_ 0 _ rfl; (with_reducible repeat (first | refine blk_drewN ?_ _ | refine blk_drew ?_ | refine blk_alloc ?_ _)); exact BK550.out) hg (Kd.R_away HO_541001.out (fun _ hk => hk.2))); have n5_ := Aside0.mk (hb); have n6_ := Aside0.mk (ho); clear HO_541000; clear BK538; clear BK539; clear BK540; clear BK550; clear HB; clear HO_541001; have HO_541000 := n0_; have BK538 := n1_; have BK539 := n2_; have BK540 := n3_; have BK550 := n4_; have HB := n5_; have HO553 := n6_; clear n0_ n1_ n2_ n3_ n4_ n5_ n6_; clear ho hb hg hat; obtain ⟨Ao68, co68, eo68⟩ := Kd.R_slice HO553.out; subst eo68; have hcz69_0 : w67.cell? ⟨gb540, 0, none⟩ = some (u541000) := (blk_cell BK540.out 0).trans rfl; have hcz69_1 : w67.cell? ⟨gb540, 1, none⟩ = some (u541001) := (blk_cell BK540.out 1).trans rfl; have hfz69_0 := blk_frozen BK540.out 0; have hfz69_1 := blk_frozen BK540.out 1))
                    go_roundg k2
                    case measure => have := HK1.out; have := HK2.out; omega
                    case rel => exact ⟨(wrap64 (x42_2 + 1)), (y551), (.slice Ao68 y551.length co68), (by first | rfl | (simp; done) | (simp [*]; done)), H', ⟨by have := HK1.out; have := HK2.out; omega⟩, ⟨by (with_reducible repeat (first | apply Kd.R_alloc | apply Kd.R_drewN | apply Kd.R_drew)); exact Kd.R_mono (Kd.R_far (p := ⟨gb540, 1, none⟩) (Kd.R_types HO_541000.out BK540.out (by decide)) (fun _ hk => hk.2) (.slice Ao68 y551.length co68)) (fun _ hk => trivial)⟩, ⟨by (with_reducible repeat (first | apply Kd.R_alloc | apply Kd.R_drewN | apply Kd.R_drew)); exact Kd.R_mono (Kd.R_far (p := ⟨gb540, 1, none⟩) (Kd.R_types HO553.out BK540.out (by decide)) (fun _ hk => hk.2) (.slice Ao68 y551.length co68)) (fun _ hk => trivial)⟩, ⟨by (with_reducible repeat (first | refine blk_drewN ?_ _ | refine blk_drew ?_ | refine blk_alloc ?_ _)); refine blk_far ?_ NB538_540.out _; (with_reducible repeat (first | refine blk_drewN ?_ _ | refine blk_drew ?_ | refine blk_alloc ?_ _)); exact BK538.out⟩, ⟨by (with_reducible repeat (first | refine blk_drewN ?_ _ | refine blk_drew ?_ | refine blk_alloc ?_ _)); refine blk_far ?_ NB539_540.out _; (with_reducible repeat (first | refine blk_drewN ?_ _ | refine blk_drew ?_ | refine blk_alloc ?_ _)); exact BK539.out⟩, ⟨by (with_reducible repeat (first | refine blk_drewN ?_ _ | refine blk_drew ?_ | refine blk_alloc ?_ _)); refine blk_put (cs := #[u541000, u541001]) ?_ 1 _ rfl; (with_reducible repeat (first | refine blk_drewN ?_ _ | refine blk_drew ?_ | refine blk_alloc ?_ _)); exact BK540.out⟩, ⟨by repeat (first | (with_reducible first | exact HB.out | apply below_alloc | apply pw_below_drewN | apply below_drew1 | refine below_set ?_ GE538.out | refine below_set ?_ GE539.out | refine below_set ?_ GE540.out | refine below_set ?_ GE550.out) | exact HB.out)⟩⟩
                  rw [if_neg c56] at H
                  exact absurd H (by simp)
                rw [if_neg c55] at H
                have c55b0 : decide (((rd_T60 l0_1 x42_2).f0) < a0_2) = false := decide_eq_false c55
                clear c55
                by_cases c70 : (IntKind.u64.wrap (((rd_T60 l0_1 x42_2).f0) - a0_2)) ≥ 4294967296
                · rw [if_pos c70] at H
                  have c70b0 : decide (4294967296 ≤ (IntKind.u64.wrap (((rd_T60 l0_1 x42_2).f0) - a0_2))) = true := decide_eq_true c70
                  clear c70
                  by_cases c71 : x541001_2.length < 8796093022208
                  · rw [if_pos c71] at H
                    have LMc71 := Aside0.mk c71
                    clear c71
                    obtain ⟨y554, hy554⟩ : ∃ y_ : List (S60), y_ = (x541001_2 ++ [(⟨(rd_T60 l0_1 x42_2).f0, (rd_T60 l0_1 x42_2).f1⟩ : S60)]) := ⟨_, rfl⟩
                    replace H : (ferrylaw04_far.l1 k2 l0_1 (l0_1.length : Int) (wrap64 (x42_2 + 1)) l0_0 l0_1 a0_2 l0_3 x541000_1 y554) = some (r1, r2) := by first | (rw [hy554]; with_reducible exact H) | (have H2_ := (Option.bind_some _ _).symm.trans H; rw [hy554]; with_reducible exact H2_) | (have H2_ := (Option.bind_some _ _).symm.trans H; with_reducible exact H2_) | with_reducible exact H | (rw [hy554]; exact H) | exact H
                    have Ny554 := Aside0.mk hy554
                    clear hy554
                    have H' := Aside0.mk H
                    clear H
                    have p549 : 0 ≤ (x42_2 : Int) := of_decide_eq_true (by first | (with_reducible assumption) | assumption)
                    have q549 : x42_2 < (l0_1.length : Int) := of_decide_eq_true (by first | (with_reducible assumption) | assumption)
                    obtain ⟨ad549, e549, hx549_0, hx549_1⟩ := at_T60 HR0_1.out x42_2 p549 q549
                    cases e549
                    replace hx549_0 := (HB.out.cell (World.block_lt_of_cell? w _ hx549_0)).trans hx549_0
                    replace hx549_1 := (HB.out.cell (World.block_lt_of_cell? w _ hx549_1)).trans hx549_1
                    replace p549 := eq_true p549
                    replace q549 := eq_true q549
                    go_wp2_with (first | ((with_reducible refine gate_dst (N := 8) rfl ?_); refine box_event ?hg (N := 8) ?hd (cs := #[.int .u64 0, .int .u64 0]) (t := 60) ?hr ?_; (case hd => rfl); (case hg => rfl); (case hr => first | (go_simp; done) | (go_simp; rfl)); intro gb550 hg w72 hbox hb; have n0_ := Aside0.mk (Kd.R_below (rT_ HO_541000.out) hb); have n1_ := Aside0.mk (Kd.R_below (Kd.R_elderB (rT_ HO_541001.out) gb550 (Nat.le_of_eq hg.symm)) hb); have n2_ := Aside0.mk (blk_below (g := gb538) (o := .cells #[.slice A0_0 l0_0.length c0_0, .slice (some ad549) l0_1.length c0_1, .int .u64 a0_2, .slice A0_3 l0_3.length c0_3] 29 (0, 0)) (bT_ BK538.out) hb); have n3_ := Aside0.mk (blk_below (g := gb539) (o := .cells #[.slice none 0 0, .slice none 0 0] 25 (0, 0)) (bT_ BK539.out) hb); have n4_ := Aside0.mk (blk_below (g := gb540) (o := .cells #[u541000, u541001] 25 (0, 0)) (bT_ BK540.out) hb); have n5_ := Aside0.mk (below_step beT_ hb); have n6_ := Aside0.mk (hbox); have n7_ := Aside0.mk ((by rw [hg]; exact (below_size beT_) : w.heap.size ≤ gb550)); have n8_ := Aside0.mk ((by rw [hg]; exact (below_size beT_) : w.heap.size ≤ gb550)); have n9_ := Aside0.mk ((by rw [hg]; exact Nat.ne_of_lt (blk_lt (g := gb538) (o := .cells #[.slice A0_0 l0_0.length c0_0, .slice (some ad549) l0_1.length c0_1, .int .u64 a0_2, .slice A0_3 l0_3.length c0_3] 29 (0, 0)) (bT_ BK538.out)) : gb538 ≠ gb550)); have n10_ := Aside0.mk ((by rw [hg]; exact Nat.ne_of_gt (blk_lt (g := gb538) (o := .cells #[.slice A0_0 l0_0.length c0_0, .slice (some ad549) l0_1.length c0_1, .int .u64 a0_2, .slice A0_3 l0_3.length c0_3] 29 (0, 0)) (bT_ BK538.out)) : gb550 ≠ gb538)); have n11_ := Aside0.mk ((by rw [hg]; exact Nat.ne_of_lt (blk_lt (g := gb539) (o := .cells #[.slice none 0 0, .slice none 0 0] 25 (0, 0)) (bT_ BK539.out)) : gb539 ≠ gb550)); have n12_ := Aside0.mk ((by rw [hg]; exact Nat.ne_of_gt (blk_lt (g := gb539) (o := .cells #[.slice none 0 0, .slice none 0 0] 25 (0, 0)) (bT_ BK539.out)) : gb550 ≠ gb539)); have n13_ := Aside0.mk ((by rw [hg]; exact Nat.ne_of_lt (blk_lt (g := gb540) (o := .cells #[u541000, u541001] 25 (0, 0)) (bT_ BK540.out)) : gb540 ≠ gb550)); have n14_ := Aside0.mk ((by rw [hg]; exact Nat.ne_of_gt (blk_lt (g := gb540) (o := .cells #[u541000, u541001] 25 (0, 0)) (bT_ BK540.out)) : gb550 ≠ gb540)); clear HO_541000; clear HO_541001; clear BK538; clear BK539; clear BK540; clear HB; have HO_541000 := n0_; have HO_541001 := n1_; have BK538 := n2_; have BK539 := n3_; have BK540 := n4_; have HB := n5_; have BK550 := n6_; have GW550 := n7_; have GE550 := n8_; have NB538_550 := n9_; have NB550_538 := n10_; have NB539_550 := n11_; have NB550_539 := n12_; have NB540_550 := n13_; have NB550_540 := n14_; clear n0_ n1_ n2_ n3_ n4_ n5_ n6_ n7_ n8_ n9_ n10_ n11_ n12_ n13_ n14_; clear hb hbox hg; have hnb73 := NB550_538.out; have hnc73 := NB538_550.out; have hnb74 := NB550_539.out; have hnc74 := NB539_550.out; have hnb75 := NB550_540.out; have hnc75 := NB540_550.out; have hcz76_0 : w72.cell? ⟨gb550, 0, none⟩ = some (.int .u64 0) := (blk_cell BK550.out 0).trans rfl; have hcz76_1 : w72.cell? ⟨gb550, 1, none⟩ = some (.int .u64 0) := (blk_cell BK550.out 1).trans rfl; have hfz76_0 := blk_frozen BK550.out 0; have hfz76_1 := blk_frozen BK550.out 1; have hnb77 := NB538_539.out; have hnc77 := NB539_538.out; have hnb78 := NB538_540.out; have hnc78 := NB540_538.out; have hcz79_0 : w72.cell? ⟨gb538, 0, none⟩ = some (.slice A0_0 l0_0.length c0_0) := (blk_cell BK538.out 0).trans rfl; have hcz79_1 : w72.cell? ⟨gb538, 1, none⟩ = some (.slice (some ad549) l0_1.length c0_1) := (blk_cell BK538.out 1).trans rfl; have hcz79_2 : w72.cell? ⟨gb538, 2, none⟩ = some (.int .u64 a0_2) := (blk_cell BK538.out 2).trans rfl; have hcz79_3 : w72.cell? ⟨gb538, 3, none⟩ = some (.slice A0_3 l0_3.length c0_3) := (blk_cell BK538.out 3).trans rfl; have hfz79_0 := blk_frozen BK538.out 0; have hfz79_1 := blk_frozen BK538.out 1; have hfz79_2 := blk_frozen BK538.out 2; have hfz79_3 := blk_frozen BK538.out 3; have hnb80 := NB540_539.out; have hnc80 := NB539_540.out; have hcz81_0 : w72.cell? ⟨gb540, 0, none⟩ = some (u541000) := (blk_cell BK540.out 0).trans rfl; have hcz81_1 : w72.cell? ⟨gb540, 1, none⟩ = some (u541001) := (blk_cell BK540.out 1).trans rfl; have hfz81_0 := blk_frozen BK540.out 0; have hfz81_1 := blk_frozen BK540.out 1) | ((with_reducible refine gate_builtin (b := .append) (xs := #[.tmp 60, .tmp 62]) rfl ?_); at_builtin; refine Kd.R_append k60 (w0 := w) w.heap.size rfl (.tmp 60) (.tmp 62) 23 60 (.agg #[(.int .u64 0), (.int .u64 0)]) 16 rfl Try.underlying23 info60 rfl (by decide) (by omega) u541001 x541001_2 (⟨(rd_T60 l0_1 x42_2).f0, (rd_T60 l0_1 x42_2).f1⟩ : S60) [.int .u64 ((rd_T60 l0_1 x42_2).f0), .int .u64 ((rd_T60 l0_1 x42_2).f1)] (fun k_ => k_ ≠ gb550) (fun _ => False) rfl (by first | (go_simp; done) | (go_simp; rfl)) ?aP (fun _ hk => hk.elim) ?aF ?aO ?aB ?aS ?aL ?_; (case aP => exact k60_mkM _ _ _ (⟨(rd_T60 l0_1 x42_2).f0, (rd_T60 l0_1 x42_2).f1⟩ : S60)); (case aB => exact beT_); (case aF => exact (fun k_ hk => Kd.freshB (g := gb550) (o := .cells #[.int .u64 ((rd_T60 l0_1 x42_2).f0), .int .u64 ((rd_T60 l0_1 x42_2).f1)] 60 (0, 0)) (by (with_reducible repeat (first | refine blk_drewN ?_ _ | refine blk_drew ?_ | refine blk_alloc ?_ _)); refine blk_put (cs := #[.int .u64 ((rd_T60 l0_1 x42_2).f0), .int .u64 0]) ?_ 1 _ rfl; (with_reducible repeat (first | refine blk_drewN ?_ _ | refine blk_drew ?_ | refine blk_alloc ?_ _)); refine blk_put (cs := #[.int .u64 0, .int .u64 0]) ?_ 0 _ rfl; (with_reducible repeat (first | refine blk_drewN ?_ _ | refine blk_drew ?_ | refine blk_alloc ?_ _)); exact BK550.out) k_ hk)); (case aO => exact (by (with_reducible repeat (first | apply Kd.R_alloc | apply Kd.R_drewN | apply Kd.R_drew)); exact Kd.R_mono (Kd.R_far (p := ⟨gb550, 1, none⟩) (Kd.R_far (p := ⟨gb550, 0, none⟩) (Kd.R_mono HO_541001.out (fun k_ hk => (⟨hk, by first | exact hk.2 | exact hk.2.1 | exact hk.2.2⟩ : _ ∧ k_ ≠ gb550))) (fun _ hk => hk.2) (.int .u64 ((rd_T60 l0_1 x42_2).f0))) (fun _ hk => hk.2) (.int .u64 ((rd_T60 l0_1 x42_2).f1))) (fun _ hk => hk.1.2))); (case aS => exact (below_size beT_)); (case aL => have := LMc71.out; omega); intro v555 w82 ho hb hg hat; rw [← Ny554.out] at ho; have n0_ := Aside0.mk (Kd.R_over' (by (with_reducible repeat (first | apply Kd.R_alloc | apply Kd.R_drewN | apply Kd.R_drew)); exact (Kd.R_mono (Kd.R_far (p := ⟨gb550, 1, none⟩) (Kd.R_far (p := ⟨gb550, 0, none⟩) (Kd.R_types HO_541000.out BK550.out (by decide)) (fun _ hk => hk.2) (.int .u64 ((rd_T60 l0_1 x42_2).f0))) (fun _ hk => hk.2) (.int .u64 ((rd_T60 l0_1 x42_2).f1))) (fun _ h_ => h_.1))) (Kd.R_typed (by (with_reducible repeat (first | apply Kd.R_alloc | apply Kd.R_drewN | apply Kd.R_drew)); exact (Kd.R_mono (Kd.R_far (p := ⟨gb550, 1, none⟩) (Kd.R_far (p := ⟨gb550, 0, none⟩) (Kd.R_mono HO_541001.out (fun k_ hk => (⟨hk, by first | exact hk.2 | exact hk.2.1 | exact hk.2.2⟩ : _ ∧ k_ ≠ gb550))) (fun _ hk => hk.2) (.int .u64 ((rd_T60 l0_1 x42_2).f0))) (fun _ hk => hk.2) (.int .u64 ((rd_T60 l0_1 x42_2).f1))) (fun _ h_ => h_.1)))) (by decide) hg); have n1_ := Aside0.mk (blk_grown (g := gb538) (o := .cells #[.slice A0_0 l0_0.length c0_0, .slice (some ad549) l0_1.length c0_1, .int .u64 a0_2, .slice A0_3 l0_3.length c0_3] 29 (0, 0)) (by (with_reducible repeat (first | refine blk_drewN ?_ _ | refine blk_drew ?_ | refine blk_alloc ?_ _)); refine blk_far ?_ NB538_550.out _; (with_reducible repeat (first | refine blk_drewN ?_ _ | refine blk_drew ?_ | refine blk_alloc ?_ _)); refine blk_far ?_ NB538_550.out _; (with_reducible repeat (first | refine blk_drewN ?_ _ | refine blk_drew ?_ | refine blk_alloc ?_ _)); exact BK538.out) hg (Kd.R_ne HO_541001.out BK538.out (by decide))); have n2_ := Aside0.mk (blk_grown (g := gb539) (o := .cells #[.slice none 0 0, .slice none 0 0] 25 (0, 0)) (by (with_reducible repeat (first | refine blk_drewN ?_ _ | refine blk_drew ?_ | refine blk_alloc ?_ _)); refine blk_far ?_ NB539_550.out _; (with_reducible repeat (first | refine blk_drewN ?_ _ | refine blk_drew ?_ | refine blk_alloc ?_ _)); refine blk_far ?_ NB539_550.out _; (with_reducible repeat (first | refine blk_drewN ?_ _ | refine blk_drew ?_ | refine blk_alloc ?_ _)); exact BK539.out) hg (Kd.R_ne HO_541001.out BK539.out (by decide))); have n3_ := Aside0.mk (blk_grown (g := gb540) (o := .cells #[u541000, u541001] 25 (0, 0)) (by (with_reducible repeat (first | refine blk_drewN ?_ _ | refine blk_drew ?_ | refine blk_alloc ?_ _)); refine blk_far ?_ NB540_550.out _; (with_reducible repeat (first | refine blk_drewN ?_ _ | refine blk_drew ?_ | refine blk_alloc ?_ _)); refine blk_far ?_ NB540_550.out _; (with_reducible repeat (first | refine blk_drewN ?_ _ | refine blk_drew ?_ | refine blk_alloc ?_ _)); exact BK540.out) hg (Kd.R_ne HO_541001.out BK540.out (by decide))); have n4_ := Aside0.mk (blk_grown (g := gb550) (o := .cells #[.int .u64 ((rd_T60 l0_1 x42_2).f0), .int .u64 ((rd_T60 l0_1 x42_2).f1)] 60 (0, 0)) (by (with_reducible repeat (first | refine blk_drewN ?_ _ | refine blk_drew ?_ | refine blk_alloc ?_ _)); refine blk_put (cs := #[.int .u64 ((rd_T60 l0_1 x42_2).f0), .int .u64 0]) ?_ 1 _ rfl; (with_reducible repeat (first | refine blk_drewN ?_ _ | refine blk_drew ?_ | refine blk_alloc ?_ _)); refine blk_put (cs := #[.int .u64 0, .int .u64 0]) ?_ 0 _ rfl; (with_reducible repeat (first | refine blk_drewN ?_ _ | refine blk_drew ?_ | refine blk_alloc ?_ _)); exact BK550.out) hg (Kd.R_away HO_541001.out (fun _ hk => hk.2))); have n5_ := Aside0.mk (hb); have n6_ := Aside0.mk (ho); clear HO_541000; clear BK538; clear BK539; clear BK540; clear BK550; clear HB; clear HO_541001; have HO_541000 := n0_; have BK538 := n1_; have BK539 := n2_; have BK540 := n3_; have BK550 := n4_; have HB := n5_; have HO556 := n6_; clear n0_ n1_ n2_ n3_ n4_ n5_ n6_; clear ho hb hg hat; obtain ⟨Ao83, co83, eo83⟩ := Kd.R_slice HO556.out; subst eo83; have hcz84_0 : w82.cell? ⟨gb540, 0, none⟩ = some (u541000) := (blk_cell BK540.out 0).trans rfl; have hcz84_1 : w82.cell? ⟨gb540, 1, none⟩ = some (u541001) := (blk_cell BK540.out 1).trans rfl; have hfz84_0 := blk_frozen BK540.out 0; have hfz84_1 := blk_frozen BK540.out 1))
                    go_roundg k2
                    case measure => have := HK1.out; have := HK2.out; omega
                    case rel => exact ⟨(wrap64 (x42_2 + 1)), (y554), (.slice Ao83 y554.length co83), (by first | rfl | (simp; done) | (simp [*]; done)), H', ⟨by have := HK1.out; have := HK2.out; omega⟩, ⟨by (with_reducible repeat (first | apply Kd.R_alloc | apply Kd.R_drewN | apply Kd.R_drew)); exact Kd.R_mono (Kd.R_far (p := ⟨gb540, 1, none⟩) (Kd.R_types HO_541000.out BK540.out (by decide)) (fun _ hk => hk.2) (.slice Ao83 y554.length co83)) (fun _ hk => trivial)⟩, ⟨by (with_reducible repeat (first | apply Kd.R_alloc | apply Kd.R_drewN | apply Kd.R_drew)); exact Kd.R_mono (Kd.R_far (p := ⟨gb540, 1, none⟩) (Kd.R_types HO556.out BK540.out (by decide)) (fun _ hk => hk.2) (.slice Ao83 y554.length co83)) (fun _ hk => trivial)⟩, ⟨by (with_reducible repeat (first | refine blk_drewN ?_ _ | refine blk_drew ?_ | refine blk_alloc ?_ _)); refine blk_far ?_ NB538_540.out _; (with_reducible repeat (first | refine blk_drewN ?_ _ | refine blk_drew ?_ | refine blk_alloc ?_ _)); exact BK538.out⟩, ⟨by (with_reducible repeat (first | refine blk_drewN ?_ _ | refine blk_drew ?_ | refine blk_alloc ?_ _)); refine blk_far ?_ NB539_540.out _; (with_reducible repeat (first | refine blk_drewN ?_ _ | refine blk_drew ?_ | refine blk_alloc ?_ _)); exact BK539.out⟩, ⟨by (with_reducible repeat (first | refine blk_drewN ?_ _ | refine blk_drew ?_ | refine blk_alloc ?_ _)); refine blk_put (cs := #[u541000, u541001]) ?_ 1 _ rfl; (with_reducible repeat (first | refine blk_drewN ?_ _ | refine blk_drew ?_ | refine blk_alloc ?_ _)); exact BK540.out⟩, ⟨by repeat (first | (with_reducible first | exact HB.out | apply below_alloc | apply pw_below_drewN | apply below_drew1 | refine below_set ?_ GE538.out | refine below_set ?_ GE539.out | refine below_set ?_ GE540.out | refine below_set ?_ GE550.out) | exact HB.out)⟩⟩
                  rw [if_neg c71] at H
                  exact absurd H (by simp)
                rw [if_neg c70] at H
                have c70b0 : decide (4294967296 ≤ (IntKind.u64.wrap (((rd_T60 l0_1 x42_2).f0) - a0_2))) = false := decide_eq_false c70
                clear c70
                have H' := Aside0.mk H
                clear H
                have p549 : 0 ≤ (x42_2 : Int) := of_decide_eq_true (by first | (with_reducible assumption) | assumption)
                have q549 : x42_2 < (l0_1.length : Int) := of_decide_eq_true (by first | (with_reducible assumption) | assumption)
                obtain ⟨ad549, e549, hx549_0, hx549_1⟩ := at_T60 HR0_1.out x42_2 p549 q549
                cases e549
                replace hx549_0 := (HB.out.cell (World.block_lt_of_cell? w _ hx549_0)).trans hx549_0
                replace hx549_1 := (HB.out.cell (World.block_lt_of_cell? w _ hx549_1)).trans hx549_1
                replace p549 := eq_true p549
                replace q549 := eq_true q549
                go_wp2_with (first | ((with_reducible refine gate_dst (N := 8) rfl ?_); refine box_event ?hg (N := 8) ?hd (cs := #[.int .u64 0, .int .u64 0]) (t := 60) ?hr ?_; (case hd => rfl); (case hg => rfl); (case hr => first | (go_simp; done) | (go_simp; rfl)); intro gb550 hg w85 hbox hb; have n0_ := Aside0.mk (Kd.R_below (rT_ HO_541000.out) hb); have n1_ := Aside0.mk (Kd.R_below (Kd.R_elderB (rT_ HO_541001.out) gb550 (Nat.le_of_eq hg.symm)) hb); have n2_ := Aside0.mk (blk_below (g := gb538) (o := .cells #[.slice A0_0 l0_0.length c0_0, .slice (some ad549) l0_1.length c0_1, .int .u64 a0_2, .slice A0_3 l0_3.length c0_3] 29 (0, 0)) (bT_ BK538.out) hb); have n3_ := Aside0.mk (blk_below (g := gb539) (o := .cells #[.slice none 0 0, .slice none 0 0] 25 (0, 0)) (bT_ BK539.out) hb); have n4_ := Aside0.mk (blk_below (g := gb540) (o := .cells #[u541000, u541001] 25 (0, 0)) (bT_ BK540.out) hb); have n5_ := Aside0.mk (below_step beT_ hb); have n6_ := Aside0.mk (hbox); have n7_ := Aside0.mk ((by rw [hg]; exact (below_size beT_) : w.heap.size ≤ gb550)); have n8_ := Aside0.mk ((by rw [hg]; exact (below_size beT_) : w.heap.size ≤ gb550)); have n9_ := Aside0.mk ((by rw [hg]; exact Nat.ne_of_lt (blk_lt (g := gb538) (o := .cells #[.slice A0_0 l0_0.length c0_0, .slice (some ad549) l0_1.length c0_1, .int .u64 a0_2, .slice A0_3 l0_3.length c0_3] 29 (0, 0)) (bT_ BK538.out)) : gb538 ≠ gb550)); have n10_ := Aside0.mk ((by rw [hg]; exact Nat.ne_of_gt (blk_lt (g := gb538) (o := .cells #[.slice A0_0 l0_0.length c0_0, .slice (some ad549) l0_1.length c0_1, .int .u64 a0_2, .slice A0_3 l0_3.length c0_3] 29 (0, 0)) (bT_ BK538.out)) : gb550 ≠ gb538)); have n11_ := Aside0.mk ((by rw [hg]; exact Nat.ne_of_lt (blk_lt (g := gb539) (o := .cells #[.slice none 0 0, .slice none 0 0] 25 (0, 0)) (bT_ BK539.out)) : gb539 ≠ gb550)); have n12_ := Aside0.mk ((by rw [hg]; exact Nat.ne_of_gt (blk_lt (g := gb539) (o := .cells #[.slice none 0 0, .slice none 0 0] 25 (0, 0)) (bT_ BK539.out)) : gb550 ≠ gb539)); have n13_ := Aside0.mk ((by rw [hg]; exact Nat.ne_of_lt (blk_lt (g := gb540) (o := .cells #[u541000, u541001] 25 (0, 0)) (bT_ BK540.out)) : gb540 ≠ gb550)); have n14_ := Aside0.mk ((by rw [hg]; exact Nat.ne_of_gt (blk_lt (g := gb540) (o := .cells #[u541000, u541001] 25 (0, 0)) (bT_ BK540.out)) : gb550 ≠ gb540)); clear HO_541000; clear HO_541001; clear BK538; clear BK539; clear BK540; clear HB; have HO_541000 := n0_; have HO_541001 := n1_; have BK538 := n2_; have BK539 := n3_; have BK540 := n4_; have HB := n5_; have BK550 := n6_; have GW550 := n7_; have GE550 := n8_; have NB538_550 := n9_; have NB550_538 := n10_; have NB539_550 := n11_; have NB550_539 := n12_; have NB540_550 := n13_; have NB550_540 := n14_; clear n0_ n1_ n2_ n3_ n4_ n5_ n6_ n7_ n8_ n9_ n10_ n11_ n12_ n13_ n14_; clear hb hbox hg; have hnb86 := NB550_538.out; have hnc86 := NB538_550.out; have hnb87 := NB550_539.out; have hnc87 := NB539_550.out; have hnb88 := NB550_540.out; have hnc88 := NB540_550.out; have hcz89_0 : w85.cell? ⟨gb550, 0, none⟩ = some (.int .u64 0) := (blk_cell BK550.out 0).trans rfl; have hcz89_1 : w85.cell? ⟨gb550, 1, none⟩ = some (.int .u64 0) := (blk_cell BK550.out 1).trans rfl; have hfz89_0 := blk_frozen BK550.out 0; have hfz89_1 := blk_frozen BK550.out 1; have hnb90 := NB538_539.out; have hnc90 := NB539_538.out; have hnb91 := NB538_540.out; have hnc91 := NB540_538.out; have hcz92_0 : w85.cell? ⟨gb538, 0, none⟩ = some (.slice A0_0 l0_0.length c0_0) := (blk_cell BK538.out 0).trans rfl; have hcz92_1 : w85.cell? ⟨gb538, 1, none⟩ = some (.slice (some ad549) l0_1.length c0_1) := (blk_cell BK538.out 1).trans rfl; have hcz92_2 : w85.cell? ⟨gb538, 2, none⟩ = some (.int .u64 a0_2) := (blk_cell BK538.out 2).trans rfl; have hcz92_3 : w85.cell? ⟨gb538, 3, none⟩ = some (.slice A0_3 l0_3.length c0_3) := (blk_cell BK538.out 3).trans rfl; have hfz92_0 := blk_frozen BK538.out 0; have hfz92_1 := blk_frozen BK538.out 1; have hfz92_2 := blk_frozen BK538.out 2; have hfz92_3 := blk_frozen BK538.out 3))
                go_roundg k2
                case measure => have := HK1.out; have := HK2.out; omega
                case rel => exact ⟨(wrap64 (x42_2 + 1)), (x541001_2), (u541001), (by first | rfl | (simp; done) | (simp [*]; done)), H', ⟨by have := HK1.out; have := HK2.out; omega⟩, ⟨by (with_reducible repeat (first | apply Kd.R_alloc | apply Kd.R_drewN | apply Kd.R_drew)); exact Kd.R_mono (Kd.R_far (p := ⟨gb550, 1, none⟩) (Kd.R_far (p := ⟨gb550, 0, none⟩) (Kd.R_types HO_541000.out BK550.out (by decide)) (fun _ hk => hk.2) (.int .u64 ((rd_T60 l0_1 x42_2).f0))) (fun _ hk => hk.2) (.int .u64 ((rd_T60 l0_1 x42_2).f1))) (fun _ hk => trivial)⟩, ⟨by (with_reducible repeat (first | apply Kd.R_alloc | apply Kd.R_drewN | apply Kd.R_drew)); exact Kd.R_mono (Kd.R_far (p := ⟨gb550, 1, none⟩) (Kd.R_far (p := ⟨gb550, 0, none⟩) (Kd.R_mono HO_541001.out (fun k_ hk => (⟨hk, by first | exact hk.2 | exact hk.2.1 | exact hk.2.2⟩ : _ ∧ k_ ≠ gb550))) (fun _ hk => hk.2) (.int .u64 ((rd_T60 l0_1 x42_2).f0))) (fun _ hk => hk.2) (.int .u64 ((rd_T60 l0_1 x42_2).f1))) (fun _ hk => trivial)⟩, ⟨by (with_reducible repeat (first | refine blk_drewN ?_ _ | refine blk_drew ?_ | refine blk_alloc ?_ _)); refine blk_far ?_ NB538_550.out _; (with_reducible repeat (first | refine blk_drewN ?_ _ | refine blk_drew ?_ | refine blk_alloc ?_ _)); refine blk_far ?_ NB538_550.out _; (with_reducible repeat (first | refine blk_drewN ?_ _ | refine blk_drew ?_ | refine blk_alloc ?_ _)); exact BK538.out⟩, ⟨by (with_reducible repeat (first | refine blk_drewN ?_ _ | refine blk_drew ?_ | refine blk_alloc ?_ _)); refine blk_far ?_ NB539_550.out _; (with_reducible repeat (first | refine blk_drewN ?_ _ | refine blk_drew ?_ | refine blk_alloc ?_ _)); refine blk_far ?_ NB539_550.out _; (with_reducible repeat (first | refine blk_drewN ?_ _ | refine blk_drew ?_ | refine blk_alloc ?_ _)); exact BK539.out⟩, ⟨by (with_reducible repeat (first | refine blk_drewN ?_ _ | refine blk_drew ?_ | refine blk_alloc ?_ _)); refine blk_far ?_ NB540_550.out _; (with_reducible repeat (first | refine blk_drewN ?_ _ | refine blk_drew ?_ | refine blk_alloc ?_ _)); refine blk_far ?_ NB540_550.out _; (with_reducible repeat (first | refine blk_drewN ?_ _ | refine blk_drew ?_ | refine blk_alloc ?_ _)); exact BK540.out⟩, ⟨by repeat (first | (with_reducible first | exact HB.out | apply below_alloc | apply pw_below_drewN | apply below_drew1 | refine below_set ?_ GE538.out | refine below_set ?_ GE539.out | refine below_set ?_ GE540.out | refine below_set ?_ GE550.out) | exact HB.out)⟩⟩
              rw [if_neg c54] at H
              exact absurd H (by simp)
            rw [if_neg c53] at H
            exact absurd H (by simp)
          rw [if_neg c52] at H
          have c52b0 : decide (x42_2 < (l0_1.length : Int)) = false := decide_eq_false c52
          clear c52
          simp only [Option.some.injEq, Prod.mk.injEq] at H
          obtain ⟨rfl, rfl⟩ := H
          have hnb93 := NB540_538.out
          have hnc93 := NB538_540.out
          have hnb94 := NB540_539.out
          have hnc94 := NB539_540.out
          have hcz95_0 : wr.cell? ⟨gb540, 0, none⟩ = some (u541000) := (blk_cell BK540.out 0).trans rfl
          have hcz95_1 : wr.cell? ⟨gb540, 1, none⟩ = some (u541001) := (blk_cell BK540.out 1).trans rfl
          have hfz95_0 := blk_frozen BK540.out 0
          have hfz95_1 := blk_frozen BK540.out 1
          obtain ⟨Ao96, co96, eo96⟩ := Kd.R_slice HO_541000.out
          subst eo96
          have hnb97 := NB539_538.out
          have hnc97 := NB538_539.out
          have hcz98_0 : wr.cell? ⟨gb539, 0, none⟩ = some (.slice none 0 0) := (blk_cell BK539.out 0).trans rfl
          have hcz98_1 : wr.cell? ⟨gb539, 1, none⟩ = some (.slice none 0 0) := (blk_cell BK539.out 1).trans rfl
          have hfz98_0 := blk_frozen BK539.out 0
          have hfz98_1 := blk_frozen BK539.out 1
          obtain ⟨Ao99, co99, eo99⟩ := Kd.R_slice HO_541001.out
          subst eo99
          go_wp2
          refine bodyPost_ret (results_cell_row rfl _ _ gb539 25 #[.slice Ao96 x541000_1.length co96, .slice Ao99 x541001_2.length co99] (0, 0) _ rfl (by (with_reducible repeat (first | refine blk_drewN ?_ _ | refine blk_drew ?_ | refine blk_alloc ?_ _)); refine blk_put (cs := #[.slice Ao96 x541000_1.length co96, .slice none 0 0]) ?_ 1 _ rfl; (with_reducible repeat (first | refine blk_drewN ?_ _ | refine blk_drew ?_ | refine blk_alloc ?_ _)); refine blk_put (cs := #[.slice none 0 0, .slice none 0 0]) ?_ 0 _ rfl; (with_reducible repeat (first | refine blk_drewN ?_ _ | refine blk_drew ?_ | refine blk_alloc ?_ _)); exact BK539.out) Try.underlying25 rfl (by kernel_rfl)) rfl ?_
          exact ⟨_, _, by first | rfl | (simp [errW_none, errW_some] <;> rfl) | (simp [*, errW_none, errW_some] <;> rfl), by (with_reducible repeat (first | apply Kd.R_alloc | apply Kd.R_drewN | apply Kd.R_drew)); exact Kd.R_mono (Kd.R_far (p := ⟨gb539, 1, none⟩) (Kd.R_far (p := ⟨gb539, 0, none⟩) (Kd.R_types HO_541000.out BK539.out (by decide)) (fun _ hk => hk.2) (.slice Ao96 x541000_1.length co96)) (fun _ hk => hk.2) (.slice Ao99 x541001_2.length co99)) (fun _ hk => trivial), by (with_reducible repeat (first | apply Kd.R_alloc | apply Kd.R_drewN | apply Kd.R_drew)); exact Kd.R_mono (Kd.R_far (p := ⟨gb539, 1, none⟩) (Kd.R_far (p := ⟨gb539, 0, none⟩) (Kd.R_types HO_541001.out BK539.out (by decide)) (fun _ hk => hk.2) (.slice Ao96 x541000_1.length co96)) (fun _ hk => hk.2) (.slice Ao99 x541001_2.length co99)) (fun _ hk => trivial), by repeat (first | (with_reducible first | exact HB.out | apply below_alloc | apply pw_below_drewN | apply below_drew1 | refine below_set ?_ GE538.out | refine below_set ?_ GE539.out | refine below_set ?_ GE540.out) | exact HB.out)⟩

end Go.Proofs.Ytjhfglpgpicmiaa.F
end
