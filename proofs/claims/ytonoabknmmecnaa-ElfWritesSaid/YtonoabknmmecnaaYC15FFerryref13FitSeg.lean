import Derived.Below
import Derived.Deep.Draws
import Derived.Deep.AppendLies
import Derived.Maps.AppendAt
import Derived.OwnWalk
import Derived.Laws.BytesArg
import Derived.Laws.MakeOwn
import Derived.Laws.OwnMore
import Derived.Deep.OwnRows
import Derived.Tactics
import Derived.Lib.ConvBytes
import Derived.Laws.Slices
import Derived.WalkKit
import Derived.KernelRfl
import Derived.RowKit3
import Derived.Deep.LoopGhost
import Derived.Deep.QuietTactic
import Derived.BigQuiet
import Derived.WideLaws
import Derived.Deep.DeepCutAuto
import Derived.Deep.CutBlock
import Derived.Deep.RegionHeld3
import Derived.Laws.Rows
import Derived.Lib.AppendStr
import Derived.ArgAppend
import Derived.Laws.IdiomCopy
import Derived.RowKit
import Derived.OrdersHeld
import Derived.Laws.BitsLemmas
import Derived.Laws.StructEq
import Derived.Test.YtonoabknmmecnaaZF0
section
namespace Go.Proofs.Ytonoabknmmecnaa.F
open Go.RowKit Go.Proofs.YtonoabknmmecnaaW.PrintWords Go.Proofs.YtonoabknmmecnaaW.PrintLast Go.Proofs.YtonoabknmmecnaaW.PrintMore
attribute [local go_sem] max2_int min2_int max_two min_two max_three min_three max_four min_four
set_option linter.unusedVariables false
set_option linter.unusedSimpArgs false

def ferryref13_fitSeg.j0 : Nat → Bool → Int → Int → Int → Int → Int → Int → Int → Option (Bool)
  | 0, _, _, _, _, _, _, _, _ => none
  | k + 1, x27, x131000, x131001, x131002, x131003, x131004, x131005, x131006 => if x27 = true then (some false) else (if (IntKind.u64.wrap ((IntKind.u64.wrap (x131001)) + (IntKind.u64.wrap (x131003)))) ≥ 4294967296 then (some false) else (if (IntKind.u64.wrap ((IntKind.u64.wrap (x131002)) + (IntKind.u64.wrap (x131004)))) ≥ 4294967296 then (some false) else (if x131006 > 4096 then (some false) else (if x131000 = 1 then (if x131006 = 4096 then (some ((Int.tmod x131001 4096) == (Int.tmod x131002 4096))) else (some false)) else (some true)))))
def ferryref13_fitSeg.f (k : Nat) (a0_0 : Int) (a0_1 : Int) (a0_2 : Int) (a0_3 : Int) (a0_4 : Int) (a0_5 : Int) (a0_6 : Int) : Option (Bool) := if a0_0 < 1 then (ferryref13_fitSeg.j0 k true a0_0 a0_1 a0_2 a0_3 a0_4 a0_5 a0_6) else (if a0_0 > 3 then (ferryref13_fitSeg.j0 k true a0_0 a0_1 a0_2 a0_3 a0_4 a0_5 a0_6) else (if a0_5 < 0 then (ferryref13_fitSeg.j0 k true a0_0 a0_1 a0_2 a0_3 a0_4 a0_5 a0_6) else (if a0_5 > 7 then (ferryref13_fitSeg.j0 k true a0_0 a0_1 a0_2 a0_3 a0_4 a0_5 a0_6) else (ferryref13_fitSeg.j0 k (decide (a0_3 > a0_4)) a0_0 a0_1 a0_2 a0_3 a0_4 a0_5 a0_6))))
set_option maxHeartbeats 8000000 in
set_option maxRecDepth 100000 in
theorem ferryref13_fitSeg.calls (k : Nat) (a0_0 : Int) (a0_1 : Int) (a0_2 : Int) (a0_3 : Int) (a0_4 : Int) (a0_5 : Int) (a0_6 : Int) (r : Bool) (w : World) (h : ferryref13_fitSeg.f k a0_0 a0_1 a0_2 a0_3 a0_4 a0_5 a0_6 = some r) :
    Calls Try.prog 28 #[.agg #[.int .i64 a0_0, .int .u32 a0_1, .int .u32 a0_2, .int .u32 a0_3, .int .u32 a0_4, .int .i64 a0_5, .int .u32 a0_6]] w fun e w' => e = .returned (.bool r) ∧ Below w.heap.size w w' := by
  have hu39 := Try.underlying39
  have HB := Aside0.mk (Below.refl w.heap.size w)
  have H : (if a0_0 < 1 then (ferryref13_fitSeg.j0 k true a0_0 a0_1 a0_2 a0_3 a0_4 a0_5 a0_6) else (if a0_0 > 3 then (ferryref13_fitSeg.j0 k true a0_0 a0_1 a0_2 a0_3 a0_4 a0_5 a0_6) else (if a0_5 < 0 then (ferryref13_fitSeg.j0 k true a0_0 a0_1 a0_2 a0_3 a0_4 a0_5 a0_6) else (if a0_5 > 7 then (ferryref13_fitSeg.j0 k true a0_0 a0_1 a0_2 a0_3 a0_4 a0_5 a0_6) else (ferryref13_fitSeg.j0 k (decide (a0_3 > a0_4)) a0_0 a0_1 a0_2 a0_3 a0_4 a0_5 a0_6))))) = some r := h
  clear h
  have HC2 := Aside0.mk H
  clear H
  go_enter Try.func28, Try.ntmps28
  go_upto_region 1 with (first | ((with_reducible refine gate_dst (N := 1) rfl ?_); refine box_event ?hg (N := 1) ?hd (cs := #[.int .i64 a0_0, .int .u32 a0_1, .int .u32 a0_2, .int .u32 a0_3, .int .u32 a0_4, .int .i64 a0_5, .int .u32 a0_6]) (t := 39) ?hr ?_; (case hd => rfl); (case hg => rfl); (case hr => first | (go_simp; done) | (go_simp; rfl)); intro gb130 hg w3 hbox hb; have n0_ := Aside0.mk (below_step (by repeat (first | (with_reducible first | exact HB.out | apply below_alloc | apply pw_below_drewN | apply below_drew1) | exact HB.out)) hb); have n1_ := Aside0.mk (hbox); have n2_ := Aside0.mk ((by rw [hg]; exact (below_size (by repeat (first | (with_reducible first | exact HB.out | apply below_alloc | apply pw_below_drewN | apply below_drew1) | exact HB.out))) : w.heap.size ≤ gb130)); have n3_ := Aside0.mk ((by rw [hg]; exact (below_size (by repeat (first | (with_reducible first | exact HB.out | apply below_alloc | apply pw_below_drewN | apply below_drew1) | exact HB.out))) : w.heap.size ≤ gb130)); clear HB; have HB := n0_; have BK130 := n1_; have GW130 := n2_; have GE130 := n3_; clear n0_ n1_ n2_ n3_; clear hb hbox hg))
  (try simp only [Act.put, List.setIfInBounds_toArray, List.set_cons_zero, List.set_cons_succ])
  go_cut [27] (fun v27 wc => ∃ (kq : Nat) (x27_1 : Bool), v27 = .bool x27_1 ∧ Aside0 (ferryref13_fitSeg.j0 kq x27_1 a0_0 a0_1 a0_2 a0_3 a0_4 a0_5 a0_6 = some r) ∧ Aside0 (kq ≤ k) ∧ Aside0 (wc.heap[gb130]? = some (.cells #[.int .i64 a0_0, .int .u32 a0_1, .int .u32 a0_2, .int .u32 a0_3, .int .u32 a0_4, .int .i64 a0_5, .int .u32 a0_6] 39 (0, 0))) ∧ Aside0 (Below w.heap.size w wc))
  case first =>
    have H := HC2.out
    clear HC2
    by_cases c4 : a0_0 < 1
    · rw [if_pos c4] at H
      have c4b0 : decide (a0_0 < 1) = true := decide_eq_true c4
      clear c4
      (first | rw [c4b0] | (simp only [i64_w, i32_w]; rw [c4b0]) | skip)
      have H' := Aside0.mk H
      clear H
      have hcz5_0 : w3.cell? ⟨gb130, 0, none⟩ = some (.int .i64 a0_0) := (blk_cell BK130.out 0).trans rfl
      have hcz5_1 : w3.cell? ⟨gb130, 1, none⟩ = some (.int .u32 a0_1) := (blk_cell BK130.out 1).trans rfl
      have hcz5_2 : w3.cell? ⟨gb130, 2, none⟩ = some (.int .u32 a0_2) := (blk_cell BK130.out 2).trans rfl
      have hcz5_3 : w3.cell? ⟨gb130, 3, none⟩ = some (.int .u32 a0_3) := (blk_cell BK130.out 3).trans rfl
      have hcz5_4 : w3.cell? ⟨gb130, 4, none⟩ = some (.int .u32 a0_4) := (blk_cell BK130.out 4).trans rfl
      have hcz5_5 : w3.cell? ⟨gb130, 5, none⟩ = some (.int .i64 a0_5) := (blk_cell BK130.out 5).trans rfl
      have hcz5_6 : w3.cell? ⟨gb130, 6, none⟩ = some (.int .u32 a0_6) := (blk_cell BK130.out 6).trans rfl
      have hfz5_0 := blk_frozen BK130.out 0
      have hfz5_1 := blk_frozen BK130.out 1
      have hfz5_2 := blk_frozen BK130.out 2
      have hfz5_3 := blk_frozen BK130.out 3
      have hfz5_4 := blk_frozen BK130.out 4
      have hfz5_5 := blk_frozen BK130.out 5
      have hfz5_6 := blk_frozen BK130.out 6
      go_wp2
      go_meet
      case rel => exact ⟨_, (true), (by first | rfl | (simp; done) | (simp [*]; done)), H', ⟨by first | omega | exact Nat.le_refl _⟩, ⟨by (with_reducible repeat (first | refine blk_drewN ?_ _ | refine blk_drew ?_ | refine blk_alloc ?_ _)); exact BK130.out⟩, ⟨by repeat (first | (with_reducible first | exact HB.out | apply below_alloc | apply pw_below_drewN | apply below_drew1 | refine below_set ?_ GE130.out) | exact HB.out)⟩⟩
    · rw [if_neg c4] at H
      have c4b0 : decide (a0_0 < 1) = false := decide_eq_false c4
      clear c4
      (first | rw [c4b0] | (simp only [i64_w, i32_w]; rw [c4b0]) | skip)
      by_cases c6 : a0_0 > 3
      · rw [if_pos c6] at H
        have c6b0 : decide (3 < a0_0) = true := decide_eq_true c6
        clear c6
        have H' := Aside0.mk H
        clear H
        have hcz7_0 : w3.cell? ⟨gb130, 0, none⟩ = some (.int .i64 a0_0) := (blk_cell BK130.out 0).trans rfl
        have hcz7_1 : w3.cell? ⟨gb130, 1, none⟩ = some (.int .u32 a0_1) := (blk_cell BK130.out 1).trans rfl
        have hcz7_2 : w3.cell? ⟨gb130, 2, none⟩ = some (.int .u32 a0_2) := (blk_cell BK130.out 2).trans rfl
        have hcz7_3 : w3.cell? ⟨gb130, 3, none⟩ = some (.int .u32 a0_3) := (blk_cell BK130.out 3).trans rfl
        have hcz7_4 : w3.cell? ⟨gb130, 4, none⟩ = some (.int .u32 a0_4) := (blk_cell BK130.out 4).trans rfl
        have hcz7_5 : w3.cell? ⟨gb130, 5, none⟩ = some (.int .i64 a0_5) := (blk_cell BK130.out 5).trans rfl
        have hcz7_6 : w3.cell? ⟨gb130, 6, none⟩ = some (.int .u32 a0_6) := (blk_cell BK130.out 6).trans rfl
        have hfz7_0 := blk_frozen BK130.out 0
        have hfz7_1 := blk_frozen BK130.out 1
        have hfz7_2 := blk_frozen BK130.out 2
        have hfz7_3 := blk_frozen BK130.out 3
        have hfz7_4 := blk_frozen BK130.out 4
        have hfz7_5 := blk_frozen BK130.out 5
        have hfz7_6 := blk_frozen BK130.out 6
        go_wp2
        go_meet
        case rel => exact ⟨_, (true), (by first | rfl | (simp; done) | (simp [*]; done)), H', ⟨by first | omega | exact Nat.le_refl _⟩, ⟨by (with_reducible repeat (first | refine blk_drewN ?_ _ | refine blk_drew ?_ | refine blk_alloc ?_ _)); exact BK130.out⟩, ⟨by repeat (first | (with_reducible first | exact HB.out | apply below_alloc | apply pw_below_drewN | apply below_drew1 | refine below_set ?_ GE130.out) | exact HB.out)⟩⟩
      · rw [if_neg c6] at H
        have c6b0 : decide (3 < a0_0) = false := decide_eq_false c6
        clear c6
        by_cases c8 : a0_5 < 0
        · rw [if_pos c8] at H
          have c8b0 : decide (a0_5 < 0) = true := decide_eq_true c8
          clear c8
          have H' := Aside0.mk H
          clear H
          have hcz9_0 : w3.cell? ⟨gb130, 0, none⟩ = some (.int .i64 a0_0) := (blk_cell BK130.out 0).trans rfl
          have hcz9_1 : w3.cell? ⟨gb130, 1, none⟩ = some (.int .u32 a0_1) := (blk_cell BK130.out 1).trans rfl
          have hcz9_2 : w3.cell? ⟨gb130, 2, none⟩ = some (.int .u32 a0_2) := (blk_cell BK130.out 2).trans rfl
          have hcz9_3 : w3.cell? ⟨gb130, 3, none⟩ = some (.int .u32 a0_3) := (blk_cell BK130.out 3).trans rfl
          have hcz9_4 : w3.cell? ⟨gb130, 4, none⟩ = some (.int .u32 a0_4) := (blk_cell BK130.out 4).trans rfl
          have hcz9_5 : w3.cell? ⟨gb130, 5, none⟩ = some (.int .i64 a0_5) := (blk_cell BK130.out 5).trans rfl
          have hcz9_6 : w3.cell? ⟨gb130, 6, none⟩ = some (.int .u32 a0_6) := (blk_cell BK130.out 6).trans rfl
          have hfz9_0 := blk_frozen BK130.out 0
          have hfz9_1 := blk_frozen BK130.out 1
          have hfz9_2 := blk_frozen BK130.out 2
          have hfz9_3 := blk_frozen BK130.out 3
          have hfz9_4 := blk_frozen BK130.out 4
          have hfz9_5 := blk_frozen BK130.out 5
          have hfz9_6 := blk_frozen BK130.out 6
          go_wp2
          go_meet
          case rel => exact ⟨_, (true), (by first | rfl | (simp; done) | (simp [*]; done)), H', ⟨by first | omega | exact Nat.le_refl _⟩, ⟨by (with_reducible repeat (first | refine blk_drewN ?_ _ | refine blk_drew ?_ | refine blk_alloc ?_ _)); exact BK130.out⟩, ⟨by repeat (first | (with_reducible first | exact HB.out | apply below_alloc | apply pw_below_drewN | apply below_drew1 | refine below_set ?_ GE130.out) | exact HB.out)⟩⟩
        · rw [if_neg c8] at H
          have c8b0 : decide (a0_5 < 0) = false := decide_eq_false c8
          clear c8
          by_cases c10 : a0_5 > 7
          · rw [if_pos c10] at H
            have c10b0 : decide (7 < a0_5) = true := decide_eq_true c10
            clear c10
            have H' := Aside0.mk H
            clear H
            have hcz11_0 : w3.cell? ⟨gb130, 0, none⟩ = some (.int .i64 a0_0) := (blk_cell BK130.out 0).trans rfl
            have hcz11_1 : w3.cell? ⟨gb130, 1, none⟩ = some (.int .u32 a0_1) := (blk_cell BK130.out 1).trans rfl
            have hcz11_2 : w3.cell? ⟨gb130, 2, none⟩ = some (.int .u32 a0_2) := (blk_cell BK130.out 2).trans rfl
            have hcz11_3 : w3.cell? ⟨gb130, 3, none⟩ = some (.int .u32 a0_3) := (blk_cell BK130.out 3).trans rfl
            have hcz11_4 : w3.cell? ⟨gb130, 4, none⟩ = some (.int .u32 a0_4) := (blk_cell BK130.out 4).trans rfl
            have hcz11_5 : w3.cell? ⟨gb130, 5, none⟩ = some (.int .i64 a0_5) := (blk_cell BK130.out 5).trans rfl
            have hcz11_6 : w3.cell? ⟨gb130, 6, none⟩ = some (.int .u32 a0_6) := (blk_cell BK130.out 6).trans rfl
            have hfz11_0 := blk_frozen BK130.out 0
            have hfz11_1 := blk_frozen BK130.out 1
            have hfz11_2 := blk_frozen BK130.out 2
            have hfz11_3 := blk_frozen BK130.out 3
            have hfz11_4 := blk_frozen BK130.out 4
            have hfz11_5 := blk_frozen BK130.out 5
            have hfz11_6 := blk_frozen BK130.out 6
            go_wp2
            go_meet
            case rel => exact ⟨_, (true), (by first | rfl | (simp; done) | (simp [*]; done)), H', ⟨by first | omega | exact Nat.le_refl _⟩, ⟨by (with_reducible repeat (first | refine blk_drewN ?_ _ | refine blk_drew ?_ | refine blk_alloc ?_ _)); exact BK130.out⟩, ⟨by repeat (first | (with_reducible first | exact HB.out | apply below_alloc | apply pw_below_drewN | apply below_drew1 | refine below_set ?_ GE130.out) | exact HB.out)⟩⟩
          · rw [if_neg c10] at H
            have c10b0 : decide (7 < a0_5) = false := decide_eq_false c10
            clear c10
            have H' := Aside0.mk H
            clear H
            have hcz12_0 : w3.cell? ⟨gb130, 0, none⟩ = some (.int .i64 a0_0) := (blk_cell BK130.out 0).trans rfl
            have hcz12_1 : w3.cell? ⟨gb130, 1, none⟩ = some (.int .u32 a0_1) := (blk_cell BK130.out 1).trans rfl
            have hcz12_2 : w3.cell? ⟨gb130, 2, none⟩ = some (.int .u32 a0_2) := (blk_cell BK130.out 2).trans rfl
            have hcz12_3 : w3.cell? ⟨gb130, 3, none⟩ = some (.int .u32 a0_3) := (blk_cell BK130.out 3).trans rfl
            have hcz12_4 : w3.cell? ⟨gb130, 4, none⟩ = some (.int .u32 a0_4) := (blk_cell BK130.out 4).trans rfl
            have hcz12_5 : w3.cell? ⟨gb130, 5, none⟩ = some (.int .i64 a0_5) := (blk_cell BK130.out 5).trans rfl
            have hcz12_6 : w3.cell? ⟨gb130, 6, none⟩ = some (.int .u32 a0_6) := (blk_cell BK130.out 6).trans rfl
            have hfz12_0 := blk_frozen BK130.out 0
            have hfz12_1 := blk_frozen BK130.out 1
            have hfz12_2 := blk_frozen BK130.out 2
            have hfz12_3 := blk_frozen BK130.out 3
            have hfz12_4 := blk_frozen BK130.out 4
            have hfz12_5 := blk_frozen BK130.out 5
            have hfz12_6 := blk_frozen BK130.out 6
            go_wp2
            go_meet
            case rel => exact ⟨_, (decide (a0_3 > a0_4)), (by first | rfl | (simp; done) | (simp [*]; done)), H', ⟨by first | omega | exact Nat.le_refl _⟩, ⟨by (with_reducible repeat (first | refine blk_drewN ?_ _ | refine blk_drew ?_ | refine blk_alloc ?_ _)); exact BK130.out⟩, ⟨by repeat (first | (with_reducible first | exact HB.out | apply below_alloc | apply pw_below_drewN | apply below_drew1 | refine below_set ?_ GE130.out) | exact HB.out)⟩⟩
  case rest =>
    clear HC2
    try clear c1
    try clear c2
    try clear p2
    try clear c4
    try clear c4b0
    try clear c6
    try clear c6b0
    try clear c8
    try clear c8b0
    try clear c10
    try clear c10b0
    try clear hcz11_0
    try clear hcz11_1
    try clear hcz11_2
    try clear hcz11_3
    try clear hcz11_4
    try clear hcz11_5
    try clear hcz11_6
    try clear hcz12_0
    try clear hcz12_1
    try clear hcz12_2
    try clear hcz12_3
    try clear hcz12_4
    try clear hcz12_5
    try clear hcz12_6
    try clear hcz5_0
    try clear hcz5_1
    try clear hcz5_2
    try clear hcz5_3
    try clear hcz5_4
    try clear hcz5_5
    try clear hcz5_6
    try clear hcz7_0
    try clear hcz7_1
    try clear hcz7_2
    try clear hcz7_3
    try clear hcz7_4
    try clear hcz7_5
    try clear hcz7_6
    try clear hcz9_0
    try clear hcz9_1
    try clear hcz9_2
    try clear hcz9_3
    try clear hcz9_4
    try clear hcz9_5
    try clear hcz9_6
    try clear hfz11_0
    try clear hfz11_1
    try clear hfz11_2
    try clear hfz11_3
    try clear hfz11_4
    try clear hfz11_5
    try clear hfz11_6
    try clear hfz12_0
    try clear hfz12_1
    try clear hfz12_2
    try clear hfz12_3
    try clear hfz12_4
    try clear hfz12_5
    try clear hfz12_6
    try clear hfz5_0
    try clear hfz5_1
    try clear hfz5_2
    try clear hfz5_3
    try clear hfz5_4
    try clear hfz5_5
    try clear hfz5_6
    try clear hfz7_0
    try clear hfz7_1
    try clear hfz7_2
    try clear hfz7_3
    try clear hfz7_4
    try clear hfz7_5
    try clear hfz7_6
    try clear hfz9_0
    try clear hfz9_1
    try clear hfz9_2
    try clear hfz9_3
    try clear hfz9_4
    try clear hfz9_5
    try clear hfz9_6
    obtain ⟨kq, x27_1, rfl, HA, HJ1, BK130, HB⟩ := hcut
    cases kq with
    | zero => exact absurd HA.out (by simp [ferryref13_fitSeg.j0])
    | succ kj1 =>
      have H := HA.out
      clear HA
      simp only [ferryref13_fitSeg.j0] at H
      by_cases c13 : x27_1 = true
      · subst c13
        have H1 : (some false) = some r := by rw [if_pos rfl] at H; exact H
        clear H
        have H := H1
        clear H1
        obtain rfl := Option.some.inj H
        go_wp2
        go_ret
        exact ⟨by first | rfl | (simp [errW_none, errW_some] <;> rfl) | (simp [*, errW_none, errW_some] <;> rfl), by repeat (first | (with_reducible first | exact HB.out | apply below_alloc | apply pw_below_drewN | apply below_drew1 | refine below_set ?_ GE130.out) | exact HB.out)⟩
      · replace c13 := Bool.eq_false_iff.mpr c13
        subst c13
        have H1 : (if (IntKind.u64.wrap ((IntKind.u64.wrap (a0_1)) + (IntKind.u64.wrap (a0_3)))) ≥ 4294967296 then (some false) else (if (IntKind.u64.wrap ((IntKind.u64.wrap (a0_2)) + (IntKind.u64.wrap (a0_4)))) ≥ 4294967296 then (some false) else (if a0_6 > 4096 then (some false) else (if a0_0 = 1 then (if a0_6 = 4096 then (some ((Int.tmod a0_1 4096) == (Int.tmod a0_2 4096))) else (some false)) else (some true))))) = some r := by rw [if_neg (show ¬ (false = true) by decide)] at H; exact H
        clear H
        have H := H1
        clear H1
        by_cases c14 : (IntKind.u64.wrap ((IntKind.u64.wrap (a0_1)) + (IntKind.u64.wrap (a0_3)))) ≥ 4294967296
        · rw [if_pos c14] at H
          have c14b0 : decide (4294967296 ≤ (IntKind.u64.wrap ((IntKind.u64.wrap (a0_1)) + (IntKind.u64.wrap (a0_3))))) = true := decide_eq_true c14
          clear c14
          obtain rfl := Option.some.inj H
          have hcz15_0 : wc.cell? ⟨gb130, 0, none⟩ = some (.int .i64 a0_0) := (blk_cell BK130.out 0).trans rfl
          have hcz15_1 : wc.cell? ⟨gb130, 1, none⟩ = some (.int .u32 a0_1) := (blk_cell BK130.out 1).trans rfl
          have hcz15_2 : wc.cell? ⟨gb130, 2, none⟩ = some (.int .u32 a0_2) := (blk_cell BK130.out 2).trans rfl
          have hcz15_3 : wc.cell? ⟨gb130, 3, none⟩ = some (.int .u32 a0_3) := (blk_cell BK130.out 3).trans rfl
          have hcz15_4 : wc.cell? ⟨gb130, 4, none⟩ = some (.int .u32 a0_4) := (blk_cell BK130.out 4).trans rfl
          have hcz15_5 : wc.cell? ⟨gb130, 5, none⟩ = some (.int .i64 a0_5) := (blk_cell BK130.out 5).trans rfl
          have hcz15_6 : wc.cell? ⟨gb130, 6, none⟩ = some (.int .u32 a0_6) := (blk_cell BK130.out 6).trans rfl
          have hfz15_0 := blk_frozen BK130.out 0
          have hfz15_1 := blk_frozen BK130.out 1
          have hfz15_2 := blk_frozen BK130.out 2
          have hfz15_3 := blk_frozen BK130.out 3
          have hfz15_4 := blk_frozen BK130.out 4
          have hfz15_5 := blk_frozen BK130.out 5
          have hfz15_6 := blk_frozen BK130.out 6
          go_wp2
          go_ret
          exact ⟨by first | rfl | (simp [errW_none, errW_some] <;> rfl) | (simp [*, errW_none, errW_some] <;> rfl), by repeat (first | (with_reducible first | exact HB.out | apply below_alloc | apply pw_below_drewN | apply below_drew1 | refine below_set ?_ GE130.out) | exact HB.out)⟩
        · rw [if_neg c14] at H
          have c14b0 : decide (4294967296 ≤ (IntKind.u64.wrap ((IntKind.u64.wrap (a0_1)) + (IntKind.u64.wrap (a0_3))))) = false := decide_eq_false c14
          clear c14
          by_cases c16 : (IntKind.u64.wrap ((IntKind.u64.wrap (a0_2)) + (IntKind.u64.wrap (a0_4)))) ≥ 4294967296
          · rw [if_pos c16] at H
            have c16b0 : decide (4294967296 ≤ (IntKind.u64.wrap ((IntKind.u64.wrap (a0_2)) + (IntKind.u64.wrap (a0_4))))) = true := decide_eq_true c16
            clear c16
            obtain rfl := Option.some.inj H
            have hcz17_0 : wc.cell? ⟨gb130, 0, none⟩ = some (.int .i64 a0_0) := (blk_cell BK130.out 0).trans rfl
            have hcz17_1 : wc.cell? ⟨gb130, 1, none⟩ = some (.int .u32 a0_1) := (blk_cell BK130.out 1).trans rfl
            have hcz17_2 : wc.cell? ⟨gb130, 2, none⟩ = some (.int .u32 a0_2) := (blk_cell BK130.out 2).trans rfl
            have hcz17_3 : wc.cell? ⟨gb130, 3, none⟩ = some (.int .u32 a0_3) := (blk_cell BK130.out 3).trans rfl
            have hcz17_4 : wc.cell? ⟨gb130, 4, none⟩ = some (.int .u32 a0_4) := (blk_cell BK130.out 4).trans rfl
            have hcz17_5 : wc.cell? ⟨gb130, 5, none⟩ = some (.int .i64 a0_5) := (blk_cell BK130.out 5).trans rfl
            have hcz17_6 : wc.cell? ⟨gb130, 6, none⟩ = some (.int .u32 a0_6) := (blk_cell BK130.out 6).trans rfl
            have hfz17_0 := blk_frozen BK130.out 0
            have hfz17_1 := blk_frozen BK130.out 1
            have hfz17_2 := blk_frozen BK130.out 2
            have hfz17_3 := blk_frozen BK130.out 3
            have hfz17_4 := blk_frozen BK130.out 4
            have hfz17_5 := blk_frozen BK130.out 5
            have hfz17_6 := blk_frozen BK130.out 6
            go_wp2
            go_ret
            exact ⟨by first | rfl | (simp [errW_none, errW_some] <;> rfl) | (simp [*, errW_none, errW_some] <;> rfl), by repeat (first | (with_reducible first | exact HB.out | apply below_alloc | apply pw_below_drewN | apply below_drew1 | refine below_set ?_ GE130.out) | exact HB.out)⟩
          · rw [if_neg c16] at H
            have c16b0 : decide (4294967296 ≤ (IntKind.u64.wrap ((IntKind.u64.wrap (a0_2)) + (IntKind.u64.wrap (a0_4))))) = false := decide_eq_false c16
            clear c16
            by_cases c18 : a0_6 > 4096
            · rw [if_pos c18] at H
              have c18b0 : decide (4096 < a0_6) = true := decide_eq_true c18
              clear c18
              obtain rfl := Option.some.inj H
              have hcz19_0 : wc.cell? ⟨gb130, 0, none⟩ = some (.int .i64 a0_0) := (blk_cell BK130.out 0).trans rfl
              have hcz19_1 : wc.cell? ⟨gb130, 1, none⟩ = some (.int .u32 a0_1) := (blk_cell BK130.out 1).trans rfl
              have hcz19_2 : wc.cell? ⟨gb130, 2, none⟩ = some (.int .u32 a0_2) := (blk_cell BK130.out 2).trans rfl
              have hcz19_3 : wc.cell? ⟨gb130, 3, none⟩ = some (.int .u32 a0_3) := (blk_cell BK130.out 3).trans rfl
              have hcz19_4 : wc.cell? ⟨gb130, 4, none⟩ = some (.int .u32 a0_4) := (blk_cell BK130.out 4).trans rfl
              have hcz19_5 : wc.cell? ⟨gb130, 5, none⟩ = some (.int .i64 a0_5) := (blk_cell BK130.out 5).trans rfl
              have hcz19_6 : wc.cell? ⟨gb130, 6, none⟩ = some (.int .u32 a0_6) := (blk_cell BK130.out 6).trans rfl
              have hfz19_0 := blk_frozen BK130.out 0
              have hfz19_1 := blk_frozen BK130.out 1
              have hfz19_2 := blk_frozen BK130.out 2
              have hfz19_3 := blk_frozen BK130.out 3
              have hfz19_4 := blk_frozen BK130.out 4
              have hfz19_5 := blk_frozen BK130.out 5
              have hfz19_6 := blk_frozen BK130.out 6
              go_wp2
              go_ret
              exact ⟨by first | rfl | (simp [errW_none, errW_some] <;> rfl) | (simp [*, errW_none, errW_some] <;> rfl), by repeat (first | (with_reducible first | exact HB.out | apply below_alloc | apply pw_below_drewN | apply below_drew1 | refine below_set ?_ GE130.out) | exact HB.out)⟩
            · rw [if_neg c18] at H
              have c18b0 : decide (4096 < a0_6) = false := decide_eq_false c18
              clear c18
              by_cases c20 : a0_0 = 1
              · rw [if_pos c20] at H
                have c20b0 : (a0_0 == 1) = true := beq_iff_eq.mpr c20
                have c20b1 : (a0_0 != 1) = false := bne_eq_false_iff_eq.mpr c20
                clear c20
                by_cases c21 : a0_6 = 4096
                · rw [if_pos c21] at H
                  have c21b0 : (a0_6 == 4096) = true := beq_iff_eq.mpr c21
                  have c21b1 : (a0_6 != 4096) = false := bne_eq_false_iff_eq.mpr c21
                  clear c21
                  obtain rfl := Option.some.inj H
                  have hcz22_0 : wc.cell? ⟨gb130, 0, none⟩ = some (.int .i64 a0_0) := (blk_cell BK130.out 0).trans rfl
                  have hcz22_1 : wc.cell? ⟨gb130, 1, none⟩ = some (.int .u32 a0_1) := (blk_cell BK130.out 1).trans rfl
                  have hcz22_2 : wc.cell? ⟨gb130, 2, none⟩ = some (.int .u32 a0_2) := (blk_cell BK130.out 2).trans rfl
                  have hcz22_3 : wc.cell? ⟨gb130, 3, none⟩ = some (.int .u32 a0_3) := (blk_cell BK130.out 3).trans rfl
                  have hcz22_4 : wc.cell? ⟨gb130, 4, none⟩ = some (.int .u32 a0_4) := (blk_cell BK130.out 4).trans rfl
                  have hcz22_5 : wc.cell? ⟨gb130, 5, none⟩ = some (.int .i64 a0_5) := (blk_cell BK130.out 5).trans rfl
                  have hcz22_6 : wc.cell? ⟨gb130, 6, none⟩ = some (.int .u32 a0_6) := (blk_cell BK130.out 6).trans rfl
                  have hfz22_0 := blk_frozen BK130.out 0
                  have hfz22_1 := blk_frozen BK130.out 1
                  have hfz22_2 := blk_frozen BK130.out 2
                  have hfz22_3 := blk_frozen BK130.out 3
                  have hfz22_4 := blk_frozen BK130.out 4
                  have hfz22_5 := blk_frozen BK130.out 5
                  have hfz22_6 := blk_frozen BK130.out 6
                  go_wp2
                  go_ret
                  exact ⟨by first | rfl | (simp [errW_none, errW_some] <;> rfl) | (simp [*, errW_none, errW_some] <;> rfl), by repeat (first | (with_reducible first | exact HB.out | apply below_alloc | apply pw_below_drewN | apply below_drew1 | refine below_set ?_ GE130.out) | exact HB.out)⟩
                · rw [if_neg c21] at H
                  have c21b0 : (a0_6 == 4096) = false := beq_eq_false_iff_ne.mpr c21
                  have c21b1 : (a0_6 != 4096) = true := bne_iff_ne.mpr c21
                  obtain rfl := Option.some.inj H
                  have hcz23_0 : wc.cell? ⟨gb130, 0, none⟩ = some (.int .i64 a0_0) := (blk_cell BK130.out 0).trans rfl
                  have hcz23_1 : wc.cell? ⟨gb130, 1, none⟩ = some (.int .u32 a0_1) := (blk_cell BK130.out 1).trans rfl
                  have hcz23_2 : wc.cell? ⟨gb130, 2, none⟩ = some (.int .u32 a0_2) := (blk_cell BK130.out 2).trans rfl
                  have hcz23_3 : wc.cell? ⟨gb130, 3, none⟩ = some (.int .u32 a0_3) := (blk_cell BK130.out 3).trans rfl
                  have hcz23_4 : wc.cell? ⟨gb130, 4, none⟩ = some (.int .u32 a0_4) := (blk_cell BK130.out 4).trans rfl
                  have hcz23_5 : wc.cell? ⟨gb130, 5, none⟩ = some (.int .i64 a0_5) := (blk_cell BK130.out 5).trans rfl
                  have hcz23_6 : wc.cell? ⟨gb130, 6, none⟩ = some (.int .u32 a0_6) := (blk_cell BK130.out 6).trans rfl
                  have hfz23_0 := blk_frozen BK130.out 0
                  have hfz23_1 := blk_frozen BK130.out 1
                  have hfz23_2 := blk_frozen BK130.out 2
                  have hfz23_3 := blk_frozen BK130.out 3
                  have hfz23_4 := blk_frozen BK130.out 4
                  have hfz23_5 := blk_frozen BK130.out 5
                  have hfz23_6 := blk_frozen BK130.out 6
                  go_wp2
                  go_ret
                  exact ⟨by first | rfl | (simp [errW_none, errW_some] <;> rfl) | (simp [*, errW_none, errW_some] <;> rfl), by repeat (first | (with_reducible first | exact HB.out | apply below_alloc | apply pw_below_drewN | apply below_drew1 | refine below_set ?_ GE130.out) | exact HB.out)⟩
              · rw [if_neg c20] at H
                have c20b0 : (a0_0 == 1) = false := beq_eq_false_iff_ne.mpr c20
                have c20b1 : (a0_0 != 1) = true := bne_iff_ne.mpr c20
                obtain rfl := Option.some.inj H
                have hcz24_0 : wc.cell? ⟨gb130, 0, none⟩ = some (.int .i64 a0_0) := (blk_cell BK130.out 0).trans rfl
                have hcz24_1 : wc.cell? ⟨gb130, 1, none⟩ = some (.int .u32 a0_1) := (blk_cell BK130.out 1).trans rfl
                have hcz24_2 : wc.cell? ⟨gb130, 2, none⟩ = some (.int .u32 a0_2) := (blk_cell BK130.out 2).trans rfl
                have hcz24_3 : wc.cell? ⟨gb130, 3, none⟩ = some (.int .u32 a0_3) := (blk_cell BK130.out 3).trans rfl
                have hcz24_4 : wc.cell? ⟨gb130, 4, none⟩ = some (.int .u32 a0_4) := (blk_cell BK130.out 4).trans rfl
                have hcz24_5 : wc.cell? ⟨gb130, 5, none⟩ = some (.int .i64 a0_5) := (blk_cell BK130.out 5).trans rfl
                have hcz24_6 : wc.cell? ⟨gb130, 6, none⟩ = some (.int .u32 a0_6) := (blk_cell BK130.out 6).trans rfl
                have hfz24_0 := blk_frozen BK130.out 0
                have hfz24_1 := blk_frozen BK130.out 1
                have hfz24_2 := blk_frozen BK130.out 2
                have hfz24_3 := blk_frozen BK130.out 3
                have hfz24_4 := blk_frozen BK130.out 4
                have hfz24_5 := blk_frozen BK130.out 5
                have hfz24_6 := blk_frozen BK130.out 6
                go_wp2
                go_ret
                exact ⟨by first | rfl | (simp [errW_none, errW_some] <;> rfl) | (simp [*, errW_none, errW_some] <;> rfl), by repeat (first | (with_reducible first | exact HB.out | apply below_alloc | apply pw_below_drewN | apply below_drew1 | refine below_set ?_ GE130.out) | exact HB.out)⟩

end Go.Proofs.Ytonoabknmmecnaa.F
end
