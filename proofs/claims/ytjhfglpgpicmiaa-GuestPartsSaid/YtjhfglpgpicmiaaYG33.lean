import Derived.Below
import Derived.Deep.Draws
import Derived.Deep.AppendLies
import Derived.Maps.AppendAt
import Derived.OwnWalk
import Derived.Laws.BytesArg
import Derived.Laws.MakeOwn
import Derived.Laws.OwnMore
import Derived.Deep.OwnRows
import Derived.Tactics
import Derived.Lib.ConvBytes
import Derived.Laws.Slices
import Derived.WalkKit
import Derived.KernelRfl
import Derived.RowKit3
import Derived.Deep.LoopGhost
import Derived.Deep.QuietTactic
import Derived.BigQuiet
import Derived.WideLaws
import Derived.Deep.DeepCutAuto
import Derived.Deep.CutBlock
import Derived.Deep.RegionHeld3
import Derived.Laws.Rows
import Derived.Lib.AppendStr
import Derived.ArgAppend
import Derived.Laws.IdiomCopy
import Derived.RowKit
import Derived.OrdersHeld
import Derived.Laws.BitsLemmas
import Derived.Laws.StructEq
import Derived.OwnWalkIn
import Derived.WalkSmall
import Derived.Laws.ResultCell
import Derived.ProofKit
import Derived.Lib.Hide
import Derived.Shelf.RegionOpen
import Derived.Shelf.Abstract
import Derived.Lib.SliceRun
import Derived.Shelf.Spec.SlicesInsertGrow
import Derived.OpenShut
import Derived.Deep.Slices
import Derived.SizedLaws
import Derived.RangeFuncNested
import Derived.RangeFuncBound
import Derived.RangeFuncCalls
import Derived.RangeFuncLeaves
import Derived.RangeFuncWrites
import Derived.TacticsInMore
import Derived.LoopNIn
import Derived.LoopIn
import Derived.Stop.RegionWithIn
import Derived.Test.YtjhfglpgpicmiaaZF0
import Derived.Test.YtjhfglpgpicmiaaYA0
import Derived.Test.YtjhfglpgpicmiaaYA5
import Derived.Test.YtjhfglpgpicmiaaYA9
import Derived.Test.YtjhfglpgpicmiaaYA11
import Derived.Test.YtjhfglpgpicmiaaYA13
import Derived.Test.YtjhfglpgpicmiaaYA14HGuest4
import Derived.Test.YtjhfglpgpicmiaaYA19
import Derived.Test.YtjhfglpgpicmiaaYD22FFerryref04Place
section
namespace Go.Proofs.Ytjhfglpgpicmiaa.F
open Go.RowKit Go.Proofs.YtjhfglpgpicmiaaW.PrintWords Go.Proofs.YtjhfglpgpicmiaaW.PrintLast Go.Proofs.YtjhfglpgpicmiaaW.PrintMore
attribute [local go_sem] max2_int min2_int max_two min_two max_three min_three max_four min_four
set_option linter.unusedVariables false
set_option linter.unusedSimpArgs false

def ferryref03_word.l0 : Nat → Int → Int → List (S55) → List (S60) → Option (Int)
  | 0, _, _, _, _ => none
  | k + 1, x1, x5, x183000, x183001 => if x5 < (x183001.length : Int) then (if 0 ≤ x5 then (if ((rd_T60 x183001 x5).f0) = x1 then (some ((rd_T60 x183001 x5).f1)) else (ferryref03_word.l0 k x1 (wrap64 (x5 + 1)) x183000 x183001)) else (none)) else (some 0)
def ferryref03_word.f (k : Nat) (l0_0 : List (S55)) (l0_1 : List (S60)) (a1 : Int) : Option (Int) := ferryref03_word.l0 k a1 0 l0_0 l0_1
set_option maxHeartbeats 8000000 in
set_option maxRecDepth 100000 in
theorem ferryref03_word.calls (k : Nat) (A0_0 : Option Addr) (c0_0 : Nat) (l0_0 : List (S55)) (A0_1 : Option Addr) (c0_1 : Nat) (l0_1 : List (S60)) (a1 : Int) (r : Int) (w : World) (hr0_0 : Kd.C k55 w A0_0 l0_0.length l0_0) (hc0_0 : l0_0.length ≤ c0_0) (hr0_1 : Kd.C k60 w A0_1 l0_1.length l0_1) (hc0_1 : l0_1.length ≤ c0_1) (h : ferryref03_word.f k l0_0 l0_1 a1 = some r) :
    Calls Try.prog 40 #[.agg #[.slice A0_0 l0_0.length c0_0, .slice A0_1 l0_1.length c0_1], .int .u64 a1] w fun e w' => e = .returned (.int .u64 r) ∧ Below w.heap.size w w' := by
  have hu25 := Try.underlying25
  have HR0_0 := Aside0.mk hr0_0
  have HC0_0 := Aside0.mk hc0_0
  clear hr0_0 hc0_0
  have HR0_1 := Aside0.mk hr0_1
  have HC0_1 := Aside0.mk hc0_1
  clear hr0_1 hc0_1
  have HB := Aside0.mk (Below.refl w.heap.size w)
  have H : (ferryref03_word.l0 k a1 0 l0_0 l0_1) = some r := h
  clear h
  have H' := Aside0.mk H
  clear H
  go_enter Try.func40, Try.ntmps40
  go_wp2_with (first | ((with_reducible refine gate_dst (N := 2) rfl ?_); refine box_event ?hg (N := 2) ?hd (cs := #[.slice A0_0 l0_0.length c0_0, .slice A0_1 l0_1.length c0_1]) (t := 25) ?hr ?_; (case hd => rfl); (case hg => rfl); (case hr => first | (go_simp; done) | (go_simp; rfl)); intro gb182 hg w3 hbox hb; have n0_ := Aside0.mk (below_step beT_ hb); have n1_ := Aside0.mk (hbox); have n2_ := Aside0.mk ((by rw [hg]; exact (below_size beT_) : w.heap.size ≤ gb182)); have n3_ := Aside0.mk ((by rw [hg]; exact (below_size beT_) : w.heap.size ≤ gb182)); clear HB; have HB := n0_; have BK182 := n1_; have GW182 := n2_; have GE182 := n3_; clear n0_ n1_ n2_ n3_; clear hb hbox hg))
  go_loopg [5] k (fun kq v5 w' => ∃ (x5_1 : Int), v5 = .int .i64 x5_1 ∧ Aside0 (ferryref03_word.l0 kq a1 x5_1 l0_0 l0_1 = some r) ∧ Aside0 (kq ≤ k) ∧ Aside0 (w'.heap[gb182]? = some (.cells #[(.slice A0_0 l0_0.length c0_0), (.slice A0_1 l0_1.length c0_1)] 25 (0, 0))) ∧ Aside0 (Below w.heap.size w w'))
  case atStart => exact ⟨(0), (by first | rfl | (simp; done) | (simp [*]; done)), H', ⟨Nat.le_refl _⟩, ⟨by (with_reducible repeat (first | refine blk_drewN ?_ _ | refine blk_drew ?_ | refine blk_alloc ?_ _)); exact BK182.out⟩, ⟨by repeat (first | (with_reducible first | exact HB.out | apply below_alloc | apply pw_below_drewN | apply below_drew1 | refine below_set ?_ GE182.out) | exact HB.out)⟩⟩
  case round =>
    clear H'
    try clear p2
    obtain ⟨x5_1, rfl, HA, HK1, BK182, HB⟩ := hrel
    cases gk with
    | zero => exact absurd HA.out (by simp [ferryref03_word.l0])
    | succ k1 =>
      have H := HA.out
      clear HA
      simp only [ferryref03_word.l0] at H
      by_cases c4 : x5_1 < (l0_1.length : Int)
      · rw [if_pos c4] at H
        have c4b0 : decide (x5_1 < (l0_1.length : Int)) = true := decide_eq_true c4
        clear c4
        by_cases c5 : 0 ≤ x5_1
        · rw [if_pos c5] at H
          have c5b0 : decide (0 ≤ x5_1) = true := decide_eq_true c5
          clear c5
          by_cases c6 : ((rd_T60 l0_1 x5_1).f0) = a1
          · rw [if_pos c6] at H
            have c6b0 : (((rd_T60 l0_1 x5_1).f0) == a1) = true := beq_iff_eq.mpr c6
            have c6b1 : (((rd_T60 l0_1 x5_1).f0) != a1) = false := bne_eq_false_iff_eq.mpr c6
            clear c6
            obtain rfl := Option.some.inj H
            have hcz7_0 : wr.cell? ⟨gb182, 0, none⟩ = some (.slice A0_0 l0_0.length c0_0) := (blk_cell BK182.out 0).trans rfl
            have hcz7_1 : wr.cell? ⟨gb182, 1, none⟩ = some (.slice A0_1 l0_1.length c0_1) := (blk_cell BK182.out 1).trans rfl
            have hfz7_0 := blk_frozen BK182.out 0
            have hfz7_1 := blk_frozen BK182.out 1
            have p183 : 0 ≤ (x5_1 : Int) := of_decide_eq_true (by first | (with_reducible assumption) | assumption)
            have q183 : x5_1 < (l0_1.length : Int) := of_decide_eq_true (by first | (with_reducible assumption) | assumption)
            obtain ⟨ad183, e183, hx183_0, hx183_1⟩ := at_T60 HR0_1.out x5_1 p183 q183
            cases e183
            replace hx183_0 := (HB.out.cell (World.block_lt_of_cell? w _ hx183_0)).trans hx183_0
            replace hx183_1 := (HB.out.cell (World.block_lt_of_cell? w _ hx183_1)).trans hx183_1
            replace p183 := eq_true p183
            replace q183 := eq_true q183
            have p184 : 0 ≤ (x5_1 : Int) := of_decide_eq_true (by first | (with_reducible assumption) | assumption)
            have q184 : x5_1 < (l0_1.length : Int) := of_decide_eq_true (by first | (with_reducible assumption) | assumption)
            obtain ⟨ad184, e184, hx184_0, hx184_1⟩ := at_T60 HR0_1.out x5_1 p184 q184
            obtain rfl : ad183 = ad184 := (by injection e184)
            replace hx184_0 := (HB.out.cell (World.block_lt_of_cell? w _ hx184_0)).trans hx184_0
            replace hx184_1 := (HB.out.cell (World.block_lt_of_cell? w _ hx184_1)).trans hx184_1
            replace p184 := eq_true p184
            replace q184 := eq_true q184
            go_wp2
            go_ret
            exact ⟨by first | rfl | (simp [errW_none, errW_some] <;> rfl) | (simp [*, errW_none, errW_some] <;> rfl), by repeat (first | (with_reducible first | exact HB.out | apply below_alloc | apply pw_below_drewN | apply below_drew1 | refine below_set ?_ GE182.out) | exact HB.out)⟩
          rw [if_neg c6] at H
          have c6b0 : (((rd_T60 l0_1 x5_1).f0) == a1) = false := beq_eq_false_iff_ne.mpr c6
          have c6b1 : (((rd_T60 l0_1 x5_1).f0) != a1) = true := bne_iff_ne.mpr c6
          have H' := Aside0.mk H
          clear H
          have hcz8_0 : wr.cell? ⟨gb182, 0, none⟩ = some (.slice A0_0 l0_0.length c0_0) := (blk_cell BK182.out 0).trans rfl
          have hcz8_1 : wr.cell? ⟨gb182, 1, none⟩ = some (.slice A0_1 l0_1.length c0_1) := (blk_cell BK182.out 1).trans rfl
          have hfz8_0 := blk_frozen BK182.out 0
          have hfz8_1 := blk_frozen BK182.out 1
          have p183 : 0 ≤ (x5_1 : Int) := of_decide_eq_true (by first | (with_reducible assumption) | assumption)
          have q183 : x5_1 < (l0_1.length : Int) := of_decide_eq_true (by first | (with_reducible assumption) | assumption)
          obtain ⟨ad183, e183, hx183_0, hx183_1⟩ := at_T60 HR0_1.out x5_1 p183 q183
          cases e183
          replace hx183_0 := (HB.out.cell (World.block_lt_of_cell? w _ hx183_0)).trans hx183_0
          replace hx183_1 := (HB.out.cell (World.block_lt_of_cell? w _ hx183_1)).trans hx183_1
          replace p183 := eq_true p183
          replace q183 := eq_true q183
          go_wp2
          go_roundg k1
          case measure => have := HK1.out; omega
          case rel => exact ⟨(wrap64 (x5_1 + 1)), (by first | rfl | (simp; done) | (simp [*]; done)), H', ⟨by have := HK1.out; omega⟩, ⟨by (with_reducible repeat (first | refine blk_drewN ?_ _ | refine blk_drew ?_ | refine blk_alloc ?_ _)); exact BK182.out⟩, ⟨by repeat (first | (with_reducible first | exact HB.out | apply below_alloc | apply pw_below_drewN | apply below_drew1 | refine below_set ?_ GE182.out) | exact HB.out)⟩⟩
        rw [if_neg c5] at H
        exact absurd H (by simp)
      rw [if_neg c4] at H
      have c4b0 : decide (x5_1 < (l0_1.length : Int)) = false := decide_eq_false c4
      clear c4
      obtain rfl := Option.some.inj H
      have hcz9_0 : wr.cell? ⟨gb182, 0, none⟩ = some (.slice A0_0 l0_0.length c0_0) := (blk_cell BK182.out 0).trans rfl
      have hcz9_1 : wr.cell? ⟨gb182, 1, none⟩ = some (.slice A0_1 l0_1.length c0_1) := (blk_cell BK182.out 1).trans rfl
      have hfz9_0 := blk_frozen BK182.out 0
      have hfz9_1 := blk_frozen BK182.out 1
      go_wp2
      go_ret
      exact ⟨by first | rfl | (simp [errW_none, errW_some] <;> rfl) | (simp [*, errW_none, errW_some] <;> rfl), by repeat (first | (with_reducible first | exact HB.out | apply below_alloc | apply pw_below_drewN | apply below_drew1 | refine below_set ?_ GE182.out) | exact HB.out)⟩

end Go.Proofs.Ytjhfglpgpicmiaa.F
end
section
namespace Go.Proofs.Ytjhfglpgpicmiaa.F
open Go.RowKit Go.Proofs.YtjhfglpgpicmiaaW.PrintWords Go.Proofs.YtjhfglpgpicmiaaW.PrintLast Go.Proofs.YtjhfglpgpicmiaaW.PrintMore
attribute [local go_sem] max2_int min2_int max_two min_two max_three min_three max_four min_four
set_option linter.unusedVariables false
set_option linter.unusedSimpArgs false

def ferryref03_Peek.f (k : Nat) (l0_0 : List (S55)) (l0_1 : List (S60)) (a1 : Int) : Option (Int) := (ferryref03_word.f k l0_0 l0_1 (IntKind.u64.wrap (a1 - (Int.tmod a1 8)))).bind fun t186 => (if 0 ≤ (IntKind.u64.wrap (8 * (Int.tmod a1 8))) then (some ((shr .u64 t186 (IntKind.u64.wrap (8 * (Int.tmod a1 8)))) % 256)) else (none))
set_option maxHeartbeats 8000000 in
set_option maxRecDepth 100000 in
theorem ferryref03_Peek.calls (k : Nat) (A0_0 : Option Addr) (c0_0 : Nat) (l0_0 : List (S55)) (A0_1 : Option Addr) (c0_1 : Nat) (l0_1 : List (S60)) (a1 : Int) (r : Int) (w : World) (hr0_0 : Kd.C k55 w A0_0 l0_0.length l0_0) (hc0_0 : l0_0.length ≤ c0_0) (hr0_1 : Kd.C k60 w A0_1 l0_1.length l0_1) (hc0_1 : l0_1.length ≤ c0_1) (h : ferryref03_Peek.f k l0_0 l0_1 a1 = some r) :
    Calls Try.prog 16 #[.agg #[.slice A0_0 l0_0.length c0_0, .slice A0_1 l0_1.length c0_1], .int .u64 a1] w fun e w' => e = .returned (.int .u8 r) ∧ Below w.heap.size w w' := by
  have hu25 := Try.underlying25
  have HR0_0 := Aside0.mk hr0_0
  have HC0_0 := Aside0.mk hc0_0
  clear hr0_0 hc0_0
  have HR0_1 := Aside0.mk hr0_1
  have HC0_1 := Aside0.mk hc0_1
  clear hr0_1 hc0_1
  have HB := Aside0.mk (Below.refl w.heap.size w)
  have H : ((ferryref03_word.f k l0_0 l0_1 (IntKind.u64.wrap (a1 - (Int.tmod a1 8)))).bind fun t186 => (if 0 ≤ (IntKind.u64.wrap (8 * (Int.tmod a1 8))) then (some ((shr .u64 t186 (IntKind.u64.wrap (8 * (Int.tmod a1 8)))) % 256)) else (none))) = some r := h
  clear h
  replace H := Option.bind_eq_some_iff.mp H
  obtain ⟨t186, A30, H⟩ := H
  replace H : (if 0 ≤ (IntKind.u64.wrap (8 * (Int.tmod a1 8))) then (some ((shr .u64 t186 (IntKind.u64.wrap (8 * (Int.tmod a1 8)))) % 256)) else (none)) = some r := H
  have A3 := Aside0.mk A30
  clear A30
  obtain ⟨ji4, hji4⟩ : ∃ j_ : Int, (IntKind.u64.wrap (8 * (Int.tmod a1 8))) = j_ := ⟨_, rfl⟩
  replace H : (if 0 ≤ (ji4) then (some ((shr .u64 t186 (ji4)) % 256)) else (none)) = some r := by first | (rw [hji4] at H; exact H) | (simp only [hji4] at H ⊢; exact H)
  (try rw [hji4] at A3)
  by_cases c5 : 0 ≤ (ji4)
  · rw [if_pos c5] at H
    have c5b0 := eq_true c5
    have c5b1 : decide (0 ≤ (ji4)) = true := decide_eq_true c5
    clear c5
    obtain ⟨ji6, hji6⟩ : ∃ j_ : Int, (shr .u64 t186 (ji4)) = j_ := ⟨_, rfl⟩
    replace H : (some ((ji6) % 256)) = some r := by first | (rw [hji6] at H; exact H) | (simp only [hji6] at H ⊢; exact H)
    (try rw [hji6] at A3)
    have hji6_ : (t186 / 2 ^ min (ji4).toNat 64) = ji6 := hji6
    have hji6z : (ji4) ≤ 64 → (t186 / 2 ^ (ji4).toNat) = ji6 := shr_small hji6
    obtain rfl := Option.some.inj H
    go_enter Try.func16, Try.ntmps16
    go_wp2_with (first | ((with_reducible refine gate_dst (N := 2) rfl ?_); refine box_event ?hg (N := 2) ?hd (cs := #[.slice A0_0 l0_0.length c0_0, .slice A0_1 l0_1.length c0_1]) (t := 25) ?hr ?_; (case hd => rfl); (case hg => rfl); (case hr => first | (go_simp; done) | (go_simp; rfl)); intro gb185 hg w7 hbox hb; have n0_ := Aside0.mk (below_step beT_ hb); have n1_ := Aside0.mk (hbox); have n2_ := Aside0.mk ((by rw [hg]; exact (below_size beT_) : w.heap.size ≤ gb185)); have n3_ := Aside0.mk ((by rw [hg]; exact (below_size beT_) : w.heap.size ≤ gb185)); clear HB; have HB := n0_; have BK185 := n1_; have GW185 := n2_; have GE185 := n3_; clear n0_ n1_ n2_ n3_; clear hb hbox hg; have hcz8_0 : w7.cell? ⟨gb185, 0, none⟩ = some (.slice A0_0 l0_0.length c0_0) := (blk_cell BK185.out 0).trans rfl; have hcz8_1 : w7.cell? ⟨gb185, 1, none⟩ = some (.slice A0_1 l0_1.length c0_1) := (blk_cell BK185.out 1).trans rfl; have hfz8_0 := blk_frozen BK185.out 0; have hfz8_1 := blk_frozen BK185.out 1) | ((with_reducible refine gate_callee (f := 40) rfl ?_); refine goesL_ (some 10) rfl rfl Try.func40 (by kernel_rfl) rfl #[.agg #[.slice A0_0 l0_0.length c0_0, .slice A0_1 l0_1.length c0_1], .int .u64 (IntKind.u64.wrap (a1 - (Int.tmod a1 8)))] rfl (by (try simp only [List.map_toArray, List.map_cons, List.map_nil]); first | done | rfl | (simp only [List.length_drop, List.length_take]; rfl)) ?_; (with_reducible refine (ferryref03_word.calls k _ _ l0_0 _ _ l0_1 (IntKind.u64.wrap (a1 - (Int.tmod a1 8))) t186 _ ?side1 ?side2 ?side3 ?side4 A3.out).mono ?_); (case side1 => repeat (first | exact (Kd.C_below HR0_0.out HB.out) | (with_reducible refine Kd.C_alloc ?_ _) | (with_reducible refine Kd.C_drewN ?_ _) | (with_reducible refine Kd.C_drew ?_))); (case side2 => exact HC0_0.out); (case side3 => repeat (first | exact (Kd.C_below HR0_1.out HB.out) | (with_reducible refine Kd.C_alloc ?_ _) | (with_reducible refine Kd.C_drewN ?_ _) | (with_reducible refine Kd.C_drew ?_))); (case side4 => exact HC0_1.out); rintro e w9 ⟨rfl, hb⟩; refine ⟨_, rfl, ?_⟩; have n0_ := Aside0.mk (blk_below (g := gb185) (o := .cells #[.slice A0_0 l0_0.length c0_0, .slice A0_1 l0_1.length c0_1] 25 (0, 0)) (bT_ BK185.out) hb); have n1_ := Aside0.mk (below_step beT_ hb); clear BK185; clear HB; have BK185 := n0_; have HB := n1_; clear n0_ n1_; (try clear hb); (try clear hb2); (try clear hk); (try clear hi)))
    go_ret
    exact ⟨by first | rfl | (simp [errW_none, errW_some] <;> rfl) | (simp only [← hji4, ← hji6]; first | rfl | (simp [errW_none, errW_some] <;> rfl)) | (simp [*, errW_none, errW_some] <;> rfl), by repeat (first | (with_reducible first | exact HB.out | apply below_alloc | apply pw_below_drewN | apply below_drew1 | refine below_set ?_ GE185.out) | exact HB.out)⟩
  rw [if_neg c5] at H
  exact absurd H (by simp)

end Go.Proofs.Ytjhfglpgpicmiaa.F
end
section
namespace Go.Proofs.Ytjhfglpgpicmiaa.F
open Go.RowKit Go.Shelf Go.Proofs.YtjhfglpgpicmiaaW.PrintWords Go.Proofs.YtjhfglpgpicmiaaW.PrintLast Go.Proofs.YtjhfglpgpicmiaaW.PrintMore
set_option linter.unusedVariables false
set_option linter.unusedSimpArgs false
theorem ref_word_l0 (a : Int) (l : List SM) (m : List SC) (hm : m.length ≤ 1000000) : ∀ (k i : Nat), i ≤ m.length → m.length - i < k → ferryref03_word.l0 k a (i : Int) l m = some (look clK clV a (m.drop i))
  | 0, i, _, h => by omega
  | k + 1, i, hi, h => by
    unfold ferryref03_word.l0
    by_cases hlt : i < m.length
    · rw [if_pos (by omega), if_pos (by omega), cl_getR hlt, List.drop_eq_getElem_cons hlt]
      unfold look
      have hw : wrap64 ((i : Int) + 1) = ((i + 1 : Nat) : Int) := by unfold wrap64; omega
      rw [hw, ref_word_l0 a l m hm k (i + 1) hlt (by omega)]
      split <;> rfl
    rw [if_neg (by omega), List.drop_eq_nil_of_le (by omega)]
    rfl
theorem ref_word (a : Int) (l : List SM) (m : List SC) (hm : m.length ≤ 1000000) : ∀ k, m.length < k → ferryref03_word.f k l m a = some (wrd m a) := fun k hk => ref_word_l0 a l m hm k 0 (Nat.zero_le _) (by omega)
end Go.Proofs.Ytjhfglpgpicmiaa.F
end
section
namespace Go.Proofs.Ytjhfglpgpicmiaa.F
open Go.RowKit Go.Shelf Go.Proofs.YtjhfglpgpicmiaaW.PrintWords Go.Proofs.YtjhfglpgpicmiaaW.PrintLast Go.Proofs.YtjhfglpgpicmiaaW.PrintMore
set_option linter.unusedVariables false
set_option linter.unusedSimpArgs false
theorem CellsH.wN_eq {m : List SC} (h : CellsH m) (a : Nat) : wrd m (a : Int) = ((wN m a : Nat) : Int) := by
  have := h.bd (a : Int)
  unfold wN
  omega
theorem look_filter {α : Type} {key val : α → Int} (p : α → Bool) (a : Int) (hp : ∀ x, key x = a → p x = true) : ∀ (l : List α), look key val a (l.filter p) = look key val a l
  | [] => rfl
  | x :: l => by
    rw [List.filter_cons]
    by_cases h : p x = true
    · rw [if_pos h]
      unfold look
      rw [look_filter p a hp l]
    rw [if_neg h]
    conv => rhs; unfold look
    rw [if_neg (fun e => h (hp x e)), look_filter p a hp l]
theorem has_none {α : Type} {key : α → Int} {k : Int} {l : List α} (h : ∀ x ∈ l, key x ≠ k) : has key k l = false := by
  cases e : has key k l with
  | false => rfl
  | true =>
    obtain ⟨x, hx, hk⟩ := has_mem.1 e
    exact absurd hk (h x hx)
end Go.Proofs.Ytjhfglpgpicmiaa.F
end
section
namespace Go.Proofs.Ytjhfglpgpicmiaa.F
open Go.RowKit Go.Shelf Go.Proofs.YtjhfglpgpicmiaaW.PrintWords Go.Proofs.YtjhfglpgpicmiaaW.PrintLast Go.Proofs.YtjhfglpgpicmiaaW.PrintMore
set_option linter.unusedVariables false
set_option linter.unusedSimpArgs false
def pk (m : List SC) (a : Nat) : Nat := byteAt (wN m (a - a % 8)) (a % 8)
theorem low_u64 {a : Nat} (h : a < 18446744073709551616) : IntKind.u64.wrap ((a : Int) - Int.tmod (a : Int) 8) = ((a - a % 8 : Nat) : Int) := by
  rw [Int.tmod_eq_emod_of_nonneg (by omega), u64w]
  omega
theorem off_u64 {a : Nat} : IntKind.u64.wrap (8 * Int.tmod (a : Int) 8) = ((8 * (a % 8) : Nat) : Int) := by
  rw [Int.tmod_eq_emod_of_nonneg (by omega), u64w]
  omega
theorem shr_bytes (w o : Nat) (ho : o ≤ 8) : shr .u64 (w : Int) ((8 * o : Nat) : Int) = ((w / 256 ^ o : Nat) : Int) := by
  unfold shr
  rw [Int.toNat_natCast, Nat.min_eq_left (show 8 * o ≤ IntKind.u64.bits by show 8 * o ≤ 64; omega), ← p256]
  simp
theorem ref_Peek (l : List SM) {m : List SC} (h : CellsH m) (hm : m.length ≤ 1000000) {a : Nat} (ha : a < 18446744073709551616) (k : Nat) (hk : m.length < k) : ferryref03_Peek.f k l m (a : Int) = some ((pk m a : Nat) : Int) := by
  unfold ferryref03_Peek.f
  rw [low_u64 ha, off_u64, ref_word _ l m hm k hk, Option.bind_some, if_pos (by omega), h.wN_eq, shr_bytes _ _ (by omega)]
  unfold pk byteAt
  congr 1
end Go.Proofs.Ytjhfglpgpicmiaa.F
end
section
namespace Go.Proofs.Ytjhfglpgpicmiaa.F
open Go.RowKit Go.Shelf Go.Proofs.YtjhfglpgpicmiaaW.PrintWords Go.Proofs.YtjhfglpgpicmiaaW.PrintLast Go.Proofs.YtjhfglpgpicmiaaW.PrintMore
set_option linter.unusedVariables false
set_option linter.unusedSimpArgs false
theorem clrW_zero {y : Nat} (hy : y + 8 ≤ 18446744073709551616) (a n : Nat) : clrW (a : Int) (n : Int) (y : Int) 0 8 = 0 := by
  obtain ⟨q, hq, e, hb⟩ := clrW_spec hy (w := 0) (by decide) a n 8 (Nat.le_refl _)
  rw [show ((0 : Nat) : Int) = 0 from rfl] at e
  rw [e]
  have : q = 0 := word_ext hq (by decide) (fun k hk => by
    rw [hb k hk]
    split
    · unfold byteAt; simp
    · rfl)
  rw [this]
  rfl
theorem look_map {α : Type} {key val : α → Int} (f : α → α) (hf : ∀ x, key (f x) = key x) (g : Int → Int) (y : Int) : ∀ (l : List α), (∀ x ∈ l, key x = y → val (f x) = g (val x)) → g 0 = 0 → look key val y (l.map f) = g (look key val y l)
  | [], _, h0 => h0.symm
  | x :: l, h, h0 => by
    rw [List.map_cons]
    unfold look
    rw [hf]
    by_cases hx : key x = y
    · rw [if_pos hx, if_pos hx]
      exact h x List.mem_cons_self hx
    rw [if_neg hx, if_neg hx]
    exact look_map f hf g y l (fun z hz => h z (List.mem_cons_of_mem _ hz)) h0
theorem look_nz {α : Type} {key val : α → Int} (y : Int) : ∀ {l : List α}, Rises key l → look key val y (l.filter (fun x => !(val x == 0))) = look key val y l
  | [], _ => rfl
  | x :: l, hr => by
    rw [List.filter_cons]
    have ih := look_nz (val := val) y (rises_tail key hr)
    by_cases hv : val x = 0
    · rw [if_neg (by simp [hv]), ih]
      conv => rhs; unfold look
      by_cases hx : key x = y
      · rw [if_pos hx, hv]
        exact look_none key val (fun z hz => by have := rises_head key hr z hz; omega)
      rw [if_neg hx]
    rw [if_pos (by simpa using hv)]
    unfold look
    rw [ih]
theorem wN_clear {m : List SC} (h : CellsH m) (a n : Nat) {y : Nat} (hy : y + 8 ≤ 18446744073709551616) : ∀ k, k < 8 → byteAt (wN (clearS m (a : Int) (n : Int)) y) k = if a ≤ y + k ∧ y + k - a < n then 0 else byteAt (wN m y) k := by
  obtain ⟨q, hq, e, hb⟩ := clrW_spec (w := wN m y) hy (h.wN_lt y) a n 8 (Nat.le_refl _)
  have h1 : wrd (clearS m (a : Int) (n : Int)) (y : Int) = (q : Int) := by
    unfold wrd clearS
    rw [look_nz (key := clK) (val := clV) (y : Int) (rises_map clK _ (clrC_key _ _) h.mr), look_map (key := clK) (val := clV) (clrC (a : Int) (n : Int)) (clrC_key _ _) (fun v => clrW (a : Int) (n : Int) (y : Int) v 8) (y : Int) m (fun x _ hx => by
      show clrW _ _ x.f0 x.f1 8 = _
      rw [show x.f0 = (y : Int) from hx]) (clrW_zero hy a n)]
    show clrW _ _ _ (wrd m (y : Int)) 8 = _
    rw [h.wN_eq]
    exact e
  have h2 : wN (clearS m (a : Int) (n : Int)) y = q := by
    unfold wN
    rw [h1]
    omega
  intro k hk
  rw [h2, hb k hk]
  by_cases h3 : a ≤ y + k ∧ y + k - a < n
  · rw [if_pos ⟨hk, h3⟩, if_pos h3]
  rw [if_neg (by omega), if_neg h3]
theorem pk_clear {m : List SC} (h : CellsH m) (a n : Nat) {x : Nat} (hx : x < 18446744073709551616) : pk (clearS m (a : Int) (n : Int)) x = if a ≤ x ∧ x - a < n then 0 else pk m x := by
  unfold pk
  rw [wN_clear h a n (by omega) _ (Nat.mod_lt _ (by decide)), show x - x % 8 + x % 8 = x by omega]
end Go.Proofs.Ytjhfglpgpicmiaa.F
end
section
namespace Go.Proofs.Ytjhfglpgpicmiaa.F
open Go.RowKit Go.Shelf Go.Proofs.YtjhfglpgpicmiaaW.PrintWords Go.Proofs.YtjhfglpgpicmiaaW.PrintLast Go.Proofs.YtjhfglpgpicmiaaW.PrintMore
set_option linter.unusedVariables false
set_option linter.unusedSimpArgs false
theorem ref04_Place {l : List SM} {m : List SC} {b : Int} {p : List SP} (hb : BaseG b) {a : Int} (a0 : 0 ≤ a) (a1 : a < 4294967296) : ferryref04_Place.f l m b p a = some (b + a) := by
  have h0 := hb.b0
  have h1 := hb.b1
  unfold ferryref04_Place.f
  rw [u64w a, u64w]
  congr 1
  omega
end Go.Proofs.Ytjhfglpgpicmiaa.F
end
section
namespace Go.Proofs.Ytjhfglpgpicmiaa.F
open Go.RowKit Go.Shelf Go.Proofs.YtjhfglpgpicmiaaW.PrintWords Go.Proofs.YtjhfglpgpicmiaaW.PrintLast Go.Proofs.YtjhfglpgpicmiaaW.PrintMore
set_option linter.unusedVariables false
set_option linter.unusedSimpArgs false
theorem protP_mem {p : List SP} (hr : Rises pgK p) {x : SP} (hx : x ∈ p) : protP p x.f0 = x.f1 := by
  unfold protP
  rw [has_mem.2 ⟨x, hx, rfl⟩, if_pos rfl]
  exact look_mem pgK (fun x => x.f1) hr hx
theorem protP_none {p : List SP} {k : Int} (h : ∀ x ∈ p, x.f0 ≠ k) : protP p k = -1 := by
  unfold protP
  rw [has_none (fun x hx => h x hx), if_neg (by decide)]
theorem protP_ext {p p' : List SP} (hr : Rises pgK p) (hr' : Rises pgK p') {k : Int} (h : ∀ x : SP, x.f0 = k → (x ∈ p ↔ x ∈ p')) : protP p k = protP p' k := by
  by_cases hx : ∃ x ∈ p, x.f0 = k
  · obtain ⟨x, hx, rfl⟩ := hx
    rw [protP_mem hr hx, protP_mem hr' ((h x rfl).1 hx)]
  rw [protP_none (fun x hx2 e => hx ⟨x, hx2, e⟩), protP_none (fun x hx2 e => hx ⟨x, (h x e).2 hx2, e⟩)]
theorem wrd_filter {m : List SC} (g : Int → Bool) (a : Int) : wrd (m.filter (fun c => !g c.f0)) a = if g a = true then 0 else wrd m a := by
  unfold wrd
  cases hg : g a with
  | false =>
    rw [if_neg (by decide)]
    exact look_filter _ a (fun x hx => by
      have e : clK x = x.f0 := rfl
      rw [← e, hx, hg]
      rfl) m
  | true =>
    rw [if_pos rfl]
    refine look_none clK clV (fun x hx e => ?_)
    have e2 : clK x = x.f0 := rfl
    have h2 := (List.mem_filter.1 hx).2
    rw [← e2, e, hg] at h2
    cases h2
theorem pk_filter {m : List SC} (g : Int → Bool) (a : Nat) : pk (m.filter (fun c => !g c.f0)) a = if g ((a - a % 8 : Nat) : Int) = true then 0 else pk m a := by
  unfold pk wN
  rw [wrd_filter]
  cases g ((a - a % 8 : Nat) : Int) with
  | false => rfl
  | true =>
    rw [if_pos rfl, if_pos rfl]
    unfold byteAt
    simp
theorem pk_no {m : List SC} {a : Nat} (h : ∀ c ∈ m, c.f0 ≠ ((a - a % 8 : Nat) : Int)) : pk m a = 0 := by
  unfold pk wN wrd
  rw [look_none clK clV (fun x hx => h x hx)]
  unfold byteAt
  simp
end Go.Proofs.Ytjhfglpgpicmiaa.F
end
section
namespace Go.Proofs.Ytjhfglpgpicmiaa.F
open Go.RowKit Go.Shelf Go.Proofs.YtjhfglpgpicmiaaW.PrintWords Go.Proofs.YtjhfglpgpicmiaaW.PrintLast Go.Proofs.YtjhfglpgpicmiaaW.PrintMore
set_option linter.unusedVariables false
set_option linter.unusedSimpArgs false
theorem prot_ins {l : List SM} {m : List SC} {b : Int} {p : List SP} (h : FitG l m b p) {a n q : Int} (a0 : 0 ≤ a) (n0 : 0 ≤ n) (hn : 0 < n ∧ a + n ≤ 1048576 ∧ 0 ≤ q ∧ q ≤ 7) (hf : ¬ 256 - ((delS p a n).length : Int) < n) (k : Int) : protP (insG (delS p a n) a n q) k = if a ≤ k ∧ k - a < n then q else protP p k := by
  have I := insG_P h.pages a0 hn hf
  by_cases hk : a ≤ k ∧ k - a < n
  · rw [if_pos hk]
    have hm : (⟨a + ((k - a).toNat : Int), q⟩ : SP) ∈ insG (delS p a n) a n q := (insG_mem a0 n0 hn.2.1).2 (.inr ⟨(k - a).toNat, by omega, rfl⟩)
    have := protP_mem I.pr hm
    rw [show (⟨a + ((k - a).toNat : Int), q⟩ : SP).f0 = k by show a + ((k - a).toNat : Int) = k; omega] at this
    exact this
  rw [if_neg hk]
  refine protP_ext I.pr h.pages.pr (fun x hx => ?_)
  subst hx
  rw [insG_mem a0 n0 hn.2.1, delS_mem h.pages a0]
  constructor
  · rintro (hx | ⟨i, hi, rfl⟩)
    · exact hx.1
    · exact absurd ⟨by show a ≤ a + (i : Int); omega, by show a + (i : Int) - a < n; omega⟩ hk
  · exact fun hx => .inl ⟨hx, hk⟩
theorem prot_del {l : List SM} {m : List SC} {b : Int} {p : List SP} (h : FitG l m b p) {a n : Int} (a0 : 0 ≤ a) (n0 : 0 ≤ n) (k : Int) : protP (delS p a n) k = if a ≤ k ∧ k - a < n then -1 else protP p k := by
  by_cases hk : a ≤ k ∧ k - a < n
  · rw [if_pos hk]
    exact protP_none (fun x hx e => ((delS_mem h.pages a0).1 hx).2 (by rw [e]; exact hk))
  rw [if_neg hk]
  refine protP_ext (delS_P h.pages a n).pr h.pages.pr (fun x hx => ?_)
  subst hx
  rw [delS_mem h.pages a0]
  exact ⟨fun hx => hx.1, fun hx => ⟨hx, hk⟩⟩
theorem pk_map {l : List SM} {m : List SC} {b : Int} {p : List SP} (h : FitG l m b p) {a n : Int} (a0 : 0 ≤ a) (n0 : 0 ≤ n) (hn : a + n ≤ 1048576) {at_ : Int} (t0 : 0 ≤ at_) (t1 : at_ < 4294967296) : pk (clearS m (b + a * 4096) (n * 4096)) (b + at_).toNat = if a ≤ at_ / 4096 ∧ at_ / 4096 - a < n then 0 else pk m (b + at_).toNat := by
  have h0 := h.base.b0
  have h1 := h.base.b1
  have := pk_clear h.h.cells (b + a * 4096).toNat (n * 4096).toNat (x := (b + at_).toNat) (by omega)
  rw [show (((b + a * 4096).toNat : Nat) : Int) = b + a * 4096 by omega, show (((n * 4096).toNat : Nat) : Int) = n * 4096 by omega] at this
  rw [this]
  by_cases hk : a ≤ at_ / 4096 ∧ at_ / 4096 - a < n
  · rw [if_pos hk, if_pos (by omega)]
  rw [if_neg hk, if_neg (by omega)]
theorem pk_unmap {l : List SM} {m : List SC} {b : Int} {p : List SP} (h : FitG l m b p) {a n : Int} (a0 : 0 ≤ a) (n0 : 0 ≤ n) (hn : a + n ≤ 1048576) {at_ : Int} (t0 : 0 ≤ at_) (t1 : at_ < 4294967296) : pk ((clearS m (b + a * 4096) (n * 4096)).filter (fun c => !goneN p (delS p a n) b (c.f0 / 16384))) (b + at_).toNat = if a ≤ at_ / 4096 ∧ at_ / 4096 - a < n then 0 else pk m (b + at_).toNat := by
  have h0 := h.base.b0
  have h2 := h.base.b2
  rw [pk_filter (fun z => goneN p (delS p a n) b (z / 16384)), pk_map h a0 n0 hn t0 t1]
  by_cases hk : a ≤ at_ / 4096 ∧ at_ / 4096 - a < n
  · rw [if_pos hk]
    split <;> rfl
  rw [if_neg hk]
  split
  rotate_left
  · rfl
  rename_i hg
  symm
  refine pk_no (fun c hc e => ?_)
  have hm := h.h.mp c hc
  obtain ⟨x, hx, ex⟩ := h.cm c hc (by omega) (by omega)
  have hd : x ∈ delS p a n := (delS_mem h.pages a0).2 ⟨hx, fun e2 => hk (by omega)⟩
  unfold goneN at hg
  rw [show usedN (delS p a n) b (((b + at_).toNat - (b + at_).toNat % 8 : Nat) / 16384 : Int) = true from usedN_iff.2 ⟨x, hd, by unfold hoN; omega⟩] at hg
  simp at hg
end Go.Proofs.Ytjhfglpgpicmiaa.F
end
