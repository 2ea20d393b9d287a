import Derived.Below
import Derived.Deep.Draws
import Derived.Deep.AppendLies
import Derived.Maps.AppendAt
import Derived.OwnWalk
import Derived.Laws.BytesArg
import Derived.Laws.MakeOwn
import Derived.Laws.OwnMore
import Derived.Deep.OwnRows
import Derived.Tactics
import Derived.Lib.ConvBytes
import Derived.Laws.Slices
import Derived.WalkKit
import Derived.KernelRfl
import Derived.RowKit3
import Derived.Deep.LoopGhost
import Derived.Deep.QuietTactic
import Derived.BigQuiet
import Derived.WideLaws
import Derived.Deep.DeepCutAuto
import Derived.Deep.CutBlock
import Derived.Deep.RegionHeld3
import Derived.Laws.Rows
import Derived.Lib.AppendStr
import Derived.ArgAppend
import Derived.Laws.IdiomCopy
import Derived.RowKit
import Derived.OrdersHeld
import Derived.Laws.BitsLemmas
import Derived.Laws.StructEq
import Derived.OwnWalkIn
import Derived.WalkSmall
import Derived.Laws.ResultCell
import Derived.ProofKit
import Derived.Lib.Hide
import Derived.Shelf.RegionOpen
import Derived.Shelf.Abstract
import Derived.Lib.SliceRun
import Derived.Shelf.Spec.SlicesInsertGrow
import Derived.OpenShut
import Derived.Deep.Slices
import Derived.SizedLaws
import Derived.Test.YtjhfglpgpicmiaaZF0
import Derived.Test.YtjhfglpgpicmiaaYA0
import Derived.Test.YtjhfglpgpicmiaaYA1HHost1
import Derived.Test.YtjhfglpgpicmiaaYA4HHost3
import Derived.Test.YtjhfglpgpicmiaaYA6HHost11
import Derived.Test.YtjhfglpgpicmiaaYA9
import Derived.Test.YtjhfglpgpicmiaaYA11
import Derived.Test.YtjhfglpgpicmiaaYA13
import Derived.Test.YtjhfglpgpicmiaaYF24
import Derived.Test.YtjhfglpgpicmiaaYF25FGuestFitPages
import Derived.Test.YtjhfglpgpicmiaaYF26
section
namespace Go.Proofs.Ytjhfglpgpicmiaa.F
open Go.RowKit Go.Shelf Go.Proofs.YtjhfglpgpicmiaaW.PrintWords Go.Proofs.YtjhfglpgpicmiaaW.PrintLast Go.Proofs.YtjhfglpgpicmiaaW.PrintMore
set_option linter.unusedVariables false
set_option linter.unusedSimpArgs false
theorem fp_l0 (l : List SM) (m : List SC) (b : Int) (p : List SP) (hp : p.length ≤ 1000000) : ∀ (k i : Nat), i ≤ p.length → p.length - i < k → (∀ j, j < i → badPg p j = false) → guest_fitPages.l0 k p (p.length : Int) (i : Int) l m b p = some (fpS p)
  | 0, i, _, h, _ => by omega
  | k + 1, i, hi, h, hn => by
    have YES : badPg p i = false → ∀ j, j < i + 1 → badPg p j = false := fun hb j hj => by
      rcases Nat.lt_or_ge j i with h1 | h1
      · exact hn j h1
      · obtain rfl : j = i := by omega
        exact hb
    rw [guest_fitPages.l0]
    by_cases hlt : i < p.length
    · have hw : wrap64 ((i : Int) + 1) = ((i + 1 : Nat) : Int) := by unfold wrap64; omega
      have hbm : badPg p i = (decide (p[i].f0 ≥ 1048576) || ((Go.bits .andNot .i64 p[i].f1 7 != 0) || prevGe pgK p i p[i].f0)) := by
        unfold badPg
        rw [List.getElem?_eq_getElem hlt]
      have NO := fun (hb : badPg p i = true) => show (some false : Option Bool) = some (fpS p) by
        unfold fpS
        rw [any_range_of hlt hb]
        rfl
      rw [if_pos (by omega), if_pos (by omega), if_pos (by omega), pg_getR hlt, hw]
      by_cases h1 : p[i].f0 ≥ 1048576
      · rw [decide_eq_true h1, Bool.true_or] at hbm
        rw [if_pos h1]
        exact NO hbm
      rw [decide_eq_false h1, Bool.false_or] at hbm
      rw [if_neg h1]
      by_cases h2 : Go.bits .andNot .i64 p[i].f1 7 = 0
      rotate_left
      · rw [bne_iff_ne.2 h2, Bool.true_or] at hbm
        rw [if_neg h2]
        exact NO hbm
      rw [bne_eq_false_iff_eq.2 h2, Bool.false_or] at hbm
      rw [if_pos h2]
      by_cases h3 : i = 0
      · subst h3
        rw [if_neg (by omega)]
        exact fp_l0 l m b p hp k (0 + 1) hlt (by omega) (YES hbm)
      obtain ⟨j, rfl⟩ : ∃ j, i = j + 1 := ⟨i - 1, by omega⟩
      have hw2 : wrap64 (((j + 1 : Nat) : Int) - 1) = (j : Int) := by unfold wrap64; omega
      rw [if_pos (by omega), hw2, if_pos (by omega), if_pos (by omega), pg_getR (show j < p.length by omega)]
      rw [prevGe_succ pgK p j (by omega)] at hbm
      by_cases h4 : p[j].f0 ≥ p[j + 1].f0
      · rw [if_pos h4]
        exact NO (hbm.trans (decide_eq_true h4))
      rw [if_neg h4]
      exact fp_l0 l m b p hp k (j + 1 + 1) hlt (by omega) (YES (hbm.trans (decide_eq_false h4)))
    rw [if_neg (by omega)]
    unfold fpS
    rw [any_range_no (fun j hj => hn j (by omega))]
    rfl
theorem fp_f (l : List SM) (m : List SC) (b : Int) (p : List SP) (hp : p.length ≤ 1000000) : guest_fitPages.f (p.length + 1) l m b p = some (fpS p) := fp_l0 l m b p hp _ 0 (Nat.zero_le _) (by omega) (fun j hj => by omega)
theorem fp_rises {p : List SP} (h : fpS p = true) : Rises pgK p := by
  unfold fpS at h
  rw [not_any_range] at h
  refine (rises_prev p).2 (fun i hi => ?_)
  have h2 := h i hi
  unfold badPg at h2
  rw [List.getElem?_eq_getElem hi] at h2
  simp only [Bool.or_eq_false_iff] at h2
  exact h2.2.2
def guest_Fit.f (l0_0 : List SM) (l0_1 : List SC) (a0_2 : Int) (l0_3 : List SP) : Option Bool := if l0_0.length ≤ 1000000 ∧ l0_1.length ≤ 1000000 ∧ l0_3.length ≤ 1000000 then some (gfitB l0_0 l0_1 a0_2 l0_3) else none
set_option maxHeartbeats 8000000 in
set_option maxRecDepth 100000 in
theorem guest_Fit.calls (A0_0 : Option Addr) (c0_0 : Nat) (l0_0 : List SM) (A0_1 : Option Addr) (c0_1 : Nat) (l0_1 : List SC) (a0_2 : Int) (A0_3 : Option Addr) (c0_3 : Nat) (l0_3 : List SP) (r : Bool) (w : World) (hr0_0 : Kd.C k55 w A0_0 l0_0.length l0_0) (hc0_0 : l0_0.length ≤ c0_0) (hr0_1 : Kd.C k60 w A0_1 l0_1.length l0_1) (hc0_1 : l0_1.length ≤ c0_1) (hr0_3 : Kd.C k39 w A0_3 l0_3.length l0_3) (hc0_3 : l0_3.length ≤ c0_3) (h : guest_Fit.f l0_0 l0_1 a0_2 l0_3 = some r) :
    Calls Try.prog 23 #[.agg #[.slice A0_0 l0_0.length c0_0, .slice A0_1 l0_1.length c0_1, .int .u64 a0_2, .slice A0_3 l0_3.length c0_3]] w fun e w' => e = .returned (.bool r) ∧ Below w.heap.size w w' := by
  unfold guest_Fit.f at h
  split at h
  rotate_left
  · cases h
  rename_i hl
  have EF := Lib.hid (Option.some.inj h)
  clear h
  have FH := Lib.hid (fun W (hB : Below w.heap.size w W) => hFit_L (W := W) (l := l0_0) (m := l0_1) ⟨SlV.mk (Kd.C_below hr0_0 hB) hc0_0, SlV.mk (Kd.C_below hr0_1 hB) hc0_1⟩ ⟨hl.1, hl.2.1⟩)
  have FP := Lib.hid (fun W (hB : Below w.heap.size w W) => guest_fitPages.calls (l0_3.length + 1) A0_0 c0_0 l0_0 A0_1 c0_1 l0_1 a0_2 A0_3 c0_3 l0_3 _ W (Kd.C_below hr0_0 hB) hc0_0 (Kd.C_below hr0_1 hB) hc0_1 (Kd.C_below hr0_3 hB) hc0_3 (fp_f _ _ _ _ hl.2.2))
  have A1 := Lib.hid (fun (hs : Rises pgK l0_3) W (hB : Below w.heap.size w W) (hx : W.heap[w.heap.size]? = some (.cells #[.slice A0_0 l0_0.length c0_0, .slice A0_1 l0_1.length c0_1, .int .u64 a0_2, .slice A0_3 l0_3.length c0_3] 29 (0, 0))) => pg_any.calls (lostB l0_0 a0_2) 51 #[.pointer (some ⟨w.heap.size, 0, none⟩)] (fun _ _ => by kernel_rfl) A0_3 c0_3 l0_3 W (Kd.C_below hr0_3 hB) hc0_3 hl.2.2 (fun x W' hb' => gfit_1.calls A0_0 c0_0 l0_0 A0_1 c0_1 l0_1 a0_2 A0_3 c0_3 l0_3 x w.heap.size W' (Kd.C_below hr0_0 (hB.trans (hb'.mono hB.size))) hc0_0 (Kd.C_below hr0_1 (hB.trans (hb'.mono hB.size))) hc0_1 (Kd.C_below hr0_3 (hB.trans (hb'.mono hB.size))) hc0_3 (blk_below hx hb') hl.1 hl.2.1 hl.2.2 hs))
  have A2 := Lib.hid (fun (hs : Rises pgK l0_3) W (hB : Below w.heap.size w W) (hx : W.heap[w.heap.size]? = some (.cells #[.slice A0_0 l0_0.length c0_0, .slice A0_1 l0_1.length c0_1, .int .u64 a0_2, .slice A0_3 l0_3.length c0_3] 29 (0, 0))) => mp_any.calls (idleB l0_3 a0_2) 53 #[.pointer (some ⟨w.heap.size, 0, none⟩)] (fun _ _ => by kernel_rfl) A0_0 c0_0 l0_0 W (Kd.C_below hr0_0 hB) hc0_0 hl.1 (fun x W' hb' => gfit_2.calls A0_0 c0_0 l0_0 A0_1 c0_1 l0_1 a0_2 A0_3 c0_3 l0_3 x w.heap.size W' (Kd.C_below hr0_0 (hB.trans (hb'.mono hB.size))) hc0_0 (Kd.C_below hr0_1 (hB.trans (hb'.mono hB.size))) hc0_1 (Kd.C_below hr0_3 (hB.trans (hb'.mono hB.size))) hc0_3 (blk_below hx hb') hl.1 hl.2.1 hl.2.2 hs))
  have A3 := Lib.hid (fun (hs : Rises pgK l0_3) W (hB : Below w.heap.size w W) (hx : W.heap[w.heap.size]? = some (.cells #[.slice A0_0 l0_0.length c0_0, .slice A0_1 l0_1.length c0_1, .int .u64 a0_2, .slice A0_3 l0_3.length c0_3] 29 (0, 0))) => cl_any.calls (strayB l0_3 a0_2) 55 #[.pointer (some ⟨w.heap.size, 0, none⟩)] (fun _ _ => by kernel_rfl) A0_1 c0_1 l0_1 W (Kd.C_below hr0_1 hB) hc0_1 hl.2.1 (fun x W' hb' => gfit_3.calls A0_0 c0_0 l0_0 A0_1 c0_1 l0_1 a0_2 A0_3 c0_3 l0_3 x w.heap.size W' (Kd.C_below hr0_0 (hB.trans (hb'.mono hB.size))) hc0_0 (Kd.C_below hr0_1 (hB.trans (hb'.mono hB.size))) hc0_1 (Kd.C_below hr0_3 (hB.trans (hb'.mono hB.size))) hc0_3 (blk_below hx hb') hl.1 hl.2.1 hl.2.2 hs))
  clear hr0_0 hr0_1 hr0_3
  have hu := Try.underlying29
  have hu3 := Try.underlying25
  have CH := Lib.hid (show Chain [w] w from ⟨Below.refl _ _, trivial⟩)
  go_enter Try.func23, Try.ntmps23
  go_upto_region 1 with (fail)
  replace CH := Lib.hid (CH.out.alloc (.cells #[.slice A0_0 l0_0.length c0_0, .slice A0_1 l0_1.length c0_1, .int .u64 a0_2, .slice A0_3 l0_3.length c0_3] 29))
  have BK1 := Lib.hid (blk_new w (.cells #[.slice A0_0 l0_0.length c0_0, .slice A0_1 l0_1.length c0_1, .int .u64 a0_2, .slice A0_3 l0_3.length c0_3] 29))
  generalize w.alloc (.cells #[.slice A0_0 l0_0.length c0_0, .slice A0_1 l0_1.length c0_1, .int .u64 a0_2, .slice A0_3 l0_3.length c0_3] 29) = y1 at CH BK1 ⊢
  replace CH := Lib.hid CH.out.push
  have q1_0 := (box_cell BK1.out CH.out.head 0).trans rfl
  have q1_1 := (box_cell BK1.out CH.out.head 1).trans rfl
  have q1_2 := (box_cell BK1.out CH.out.head 2).trans rfl
  have q1_3 := (box_cell BK1.out CH.out.head 3).trans rfl
  have EF2 := EF.out
  unfold gfitB at EF2
  clear EF
  cases ht : fitB l0_0 l0_1
  · skip
    rw [ht] at EF2
    simp at EF2
    subst EF2
    go_wp2_with (first | (go_at_call 49; (with_reducible refine (FH.out _ CH.out.tail.head).mono ?_); rintro e wx ⟨rfl, hb⟩; replace CH := Lib.hid (CH.out.step hb); clear hb; have q1_0 := (box_cell BK1.out CH.out.head 0).trans rfl; have q1_1 := (box_cell BK1.out CH.out.head 1).trans rfl; have q1_2 := (box_cell BK1.out CH.out.head 2).trans rfl; have q1_3 := (box_cell BK1.out CH.out.head 3).trans rfl) | (go_at_call 50; (with_reducible refine (FP.out _ CH.out.tail.head).mono ?_); rintro e wx ⟨rfl, hb⟩; replace CH := Lib.hid (CH.out.step hb); clear hb; have q1_0 := (box_cell BK1.out CH.out.head 0).trans rfl; have q1_1 := (box_cell BK1.out CH.out.head 1).trans rfl; have q1_2 := (box_cell BK1.out CH.out.head 2).trans rfl; have q1_3 := (box_cell BK1.out CH.out.head 3).trans rfl))
    go_ret
    exact ⟨rfl, CH.out.tail.head⟩
  rw [ht] at EF2
  simp only [Bool.true_and, Bool.not_false, Bool.not_true] at EF2
  have T1 := ht
  clear ht
  cases ht : (Int.tmod a0_2 16384 != 0)
  rotate_left
  · skip
    rw [ht] at EF2
    simp at EF2
    subst EF2
    go_wp2_with (first | (go_at_call 49; (with_reducible refine (FH.out _ CH.out.tail.head).mono ?_); rintro e wx ⟨rfl, hb⟩; replace CH := Lib.hid (CH.out.step hb); clear hb; have q1_0 := (box_cell BK1.out CH.out.head 0).trans rfl; have q1_1 := (box_cell BK1.out CH.out.head 1).trans rfl; have q1_2 := (box_cell BK1.out CH.out.head 2).trans rfl; have q1_3 := (box_cell BK1.out CH.out.head 3).trans rfl) | (go_at_call 50; (with_reducible refine (FP.out _ CH.out.tail.head).mono ?_); rintro e wx ⟨rfl, hb⟩; replace CH := Lib.hid (CH.out.step hb); clear hb; have q1_0 := (box_cell BK1.out CH.out.head 0).trans rfl; have q1_1 := (box_cell BK1.out CH.out.head 1).trans rfl; have q1_2 := (box_cell BK1.out CH.out.head 2).trans rfl; have q1_3 := (box_cell BK1.out CH.out.head 3).trans rfl))
    go_ret
    exact ⟨rfl, CH.out.tail.head⟩
  rw [ht] at EF2
  simp only [Bool.true_and, Bool.not_false, Bool.not_true] at EF2
  have T2 := ht
  clear ht
  cases ht : decide (a0_2 > 4611686018427387904)
  rotate_left
  · skip
    rw [ht] at EF2
    simp at EF2
    subst EF2
    go_wp2_with (first | (go_at_call 49; (with_reducible refine (FH.out _ CH.out.tail.head).mono ?_); rintro e wx ⟨rfl, hb⟩; replace CH := Lib.hid (CH.out.step hb); clear hb; have q1_0 := (box_cell BK1.out CH.out.head 0).trans rfl; have q1_1 := (box_cell BK1.out CH.out.head 1).trans rfl; have q1_2 := (box_cell BK1.out CH.out.head 2).trans rfl; have q1_3 := (box_cell BK1.out CH.out.head 3).trans rfl) | (go_at_call 50; (with_reducible refine (FP.out _ CH.out.tail.head).mono ?_); rintro e wx ⟨rfl, hb⟩; replace CH := Lib.hid (CH.out.step hb); clear hb; have q1_0 := (box_cell BK1.out CH.out.head 0).trans rfl; have q1_1 := (box_cell BK1.out CH.out.head 1).trans rfl; have q1_2 := (box_cell BK1.out CH.out.head 2).trans rfl; have q1_3 := (box_cell BK1.out CH.out.head 3).trans rfl))
    go_ret
    exact ⟨rfl, CH.out.tail.head⟩
  rw [ht] at EF2
  simp only [Bool.true_and, Bool.not_false, Bool.not_true] at EF2
  have T3 := ht
  clear ht
  cases ht : decide ((l0_3.length : Int) > 256)
  rotate_left
  · skip
    rw [ht] at EF2
    simp at EF2
    subst EF2
    go_wp2_with (first | (go_at_call 49; (with_reducible refine (FH.out _ CH.out.tail.head).mono ?_); rintro e wx ⟨rfl, hb⟩; replace CH := Lib.hid (CH.out.step hb); clear hb; have q1_0 := (box_cell BK1.out CH.out.head 0).trans rfl; have q1_1 := (box_cell BK1.out CH.out.head 1).trans rfl; have q1_2 := (box_cell BK1.out CH.out.head 2).trans rfl; have q1_3 := (box_cell BK1.out CH.out.head 3).trans rfl) | (go_at_call 50; (with_reducible refine (FP.out _ CH.out.tail.head).mono ?_); rintro e wx ⟨rfl, hb⟩; replace CH := Lib.hid (CH.out.step hb); clear hb; have q1_0 := (box_cell BK1.out CH.out.head 0).trans rfl; have q1_1 := (box_cell BK1.out CH.out.head 1).trans rfl; have q1_2 := (box_cell BK1.out CH.out.head 2).trans rfl; have q1_3 := (box_cell BK1.out CH.out.head 3).trans rfl))
    go_ret
    exact ⟨rfl, CH.out.tail.head⟩
  rw [ht] at EF2
  simp only [Bool.true_and, Bool.not_false, Bool.not_true] at EF2
  have T4 := ht
  clear ht
  cases ht : fpS l0_3
  · skip
    rw [ht] at EF2
    simp at EF2
    subst EF2
    go_wp2_with (first | (go_at_call 49; (with_reducible refine (FH.out _ CH.out.tail.head).mono ?_); rintro e wx ⟨rfl, hb⟩; replace CH := Lib.hid (CH.out.step hb); clear hb; have q1_0 := (box_cell BK1.out CH.out.head 0).trans rfl; have q1_1 := (box_cell BK1.out CH.out.head 1).trans rfl; have q1_2 := (box_cell BK1.out CH.out.head 2).trans rfl; have q1_3 := (box_cell BK1.out CH.out.head 3).trans rfl) | (go_at_call 50; (with_reducible refine (FP.out _ CH.out.tail.head).mono ?_); rintro e wx ⟨rfl, hb⟩; replace CH := Lib.hid (CH.out.step hb); clear hb; have q1_0 := (box_cell BK1.out CH.out.head 0).trans rfl; have q1_1 := (box_cell BK1.out CH.out.head 1).trans rfl; have q1_2 := (box_cell BK1.out CH.out.head 2).trans rfl; have q1_3 := (box_cell BK1.out CH.out.head 3).trans rfl))
    go_ret
    exact ⟨rfl, CH.out.tail.head⟩
  rw [ht] at EF2
  simp only [Bool.true_and, Bool.not_false, Bool.not_true] at EF2
  have T5 := ht
  clear ht
  have HSS := Lib.hid (fp_rises T5)
  cases ht : l0_3.any (lostB l0_0 a0_2)
  rotate_left
  · skip
    rw [ht] at EF2
    simp at EF2
    subst EF2
    go_wp2_with (first | (go_at_call 49; (with_reducible refine (FH.out _ CH.out.tail.head).mono ?_); rintro e wx ⟨rfl, hb⟩; replace CH := Lib.hid (CH.out.step hb); clear hb; have q1_0 := (box_cell BK1.out CH.out.head 0).trans rfl; have q1_1 := (box_cell BK1.out CH.out.head 1).trans rfl; have q1_2 := (box_cell BK1.out CH.out.head 2).trans rfl; have q1_3 := (box_cell BK1.out CH.out.head 3).trans rfl) | (go_at_call 50; (with_reducible refine (FP.out _ CH.out.tail.head).mono ?_); rintro e wx ⟨rfl, hb⟩; replace CH := Lib.hid (CH.out.step hb); clear hb; have q1_0 := (box_cell BK1.out CH.out.head 0).trans rfl; have q1_1 := (box_cell BK1.out CH.out.head 1).trans rfl; have q1_2 := (box_cell BK1.out CH.out.head 2).trans rfl; have q1_3 := (box_cell BK1.out CH.out.head 3).trans rfl) | (go_at_call 56; (with_reducible refine (A1.out HSS.out _ CH.out.tail.head (blk_below BK1.out CH.out.head)).mono ?_); rintro e wx ⟨rfl, hb⟩; replace CH := Lib.hid (CH.out.step hb); clear hb; have q1_0 := (box_cell BK1.out CH.out.head 0).trans rfl; have q1_1 := (box_cell BK1.out CH.out.head 1).trans rfl; have q1_2 := (box_cell BK1.out CH.out.head 2).trans rfl; have q1_3 := (box_cell BK1.out CH.out.head 3).trans rfl) | (go_at_call 57; (with_reducible refine (A2.out HSS.out _ CH.out.tail.head (blk_below BK1.out CH.out.head)).mono ?_); rintro e wx ⟨rfl, hb⟩; replace CH := Lib.hid (CH.out.step hb); clear hb; have q1_0 := (box_cell BK1.out CH.out.head 0).trans rfl; have q1_1 := (box_cell BK1.out CH.out.head 1).trans rfl; have q1_2 := (box_cell BK1.out CH.out.head 2).trans rfl; have q1_3 := (box_cell BK1.out CH.out.head 3).trans rfl) | (go_at_call 58; (with_reducible refine (A3.out HSS.out _ CH.out.tail.head (blk_below BK1.out CH.out.head)).mono ?_); rintro e wx ⟨rfl, hb⟩; replace CH := Lib.hid (CH.out.step hb); clear hb; have q1_0 := (box_cell BK1.out CH.out.head 0).trans rfl; have q1_1 := (box_cell BK1.out CH.out.head 1).trans rfl; have q1_2 := (box_cell BK1.out CH.out.head 2).trans rfl; have q1_3 := (box_cell BK1.out CH.out.head 3).trans rfl))
    go_ret
    exact ⟨rfl, CH.out.tail.head⟩
  rw [ht] at EF2
  simp only [Bool.true_and, Bool.not_false, Bool.not_true] at EF2
  have T6 := ht
  clear ht
  cases ht : l0_0.any (idleB l0_3 a0_2)
  rotate_left
  · skip
    rw [ht] at EF2
    simp at EF2
    subst EF2
    go_wp2_with (first | (go_at_call 49; (with_reducible refine (FH.out _ CH.out.tail.head).mono ?_); rintro e wx ⟨rfl, hb⟩; replace CH := Lib.hid (CH.out.step hb); clear hb; have q1_0 := (box_cell BK1.out CH.out.head 0).trans rfl; have q1_1 := (box_cell BK1.out CH.out.head 1).trans rfl; have q1_2 := (box_cell BK1.out CH.out.head 2).trans rfl; have q1_3 := (box_cell BK1.out CH.out.head 3).trans rfl) | (go_at_call 50; (with_reducible refine (FP.out _ CH.out.tail.head).mono ?_); rintro e wx ⟨rfl, hb⟩; replace CH := Lib.hid (CH.out.step hb); clear hb; have q1_0 := (box_cell BK1.out CH.out.head 0).trans rfl; have q1_1 := (box_cell BK1.out CH.out.head 1).trans rfl; have q1_2 := (box_cell BK1.out CH.out.head 2).trans rfl; have q1_3 := (box_cell BK1.out CH.out.head 3).trans rfl) | (go_at_call 56; (with_reducible refine (A1.out HSS.out _ CH.out.tail.head (blk_below BK1.out CH.out.head)).mono ?_); rintro e wx ⟨rfl, hb⟩; replace CH := Lib.hid (CH.out.step hb); clear hb; have q1_0 := (box_cell BK1.out CH.out.head 0).trans rfl; have q1_1 := (box_cell BK1.out CH.out.head 1).trans rfl; have q1_2 := (box_cell BK1.out CH.out.head 2).trans rfl; have q1_3 := (box_cell BK1.out CH.out.head 3).trans rfl) | (go_at_call 57; (with_reducible refine (A2.out HSS.out _ CH.out.tail.head (blk_below BK1.out CH.out.head)).mono ?_); rintro e wx ⟨rfl, hb⟩; replace CH := Lib.hid (CH.out.step hb); clear hb; have q1_0 := (box_cell BK1.out CH.out.head 0).trans rfl; have q1_1 := (box_cell BK1.out CH.out.head 1).trans rfl; have q1_2 := (box_cell BK1.out CH.out.head 2).trans rfl; have q1_3 := (box_cell BK1.out CH.out.head 3).trans rfl) | (go_at_call 58; (with_reducible refine (A3.out HSS.out _ CH.out.tail.head (blk_below BK1.out CH.out.head)).mono ?_); rintro e wx ⟨rfl, hb⟩; replace CH := Lib.hid (CH.out.step hb); clear hb; have q1_0 := (box_cell BK1.out CH.out.head 0).trans rfl; have q1_1 := (box_cell BK1.out CH.out.head 1).trans rfl; have q1_2 := (box_cell BK1.out CH.out.head 2).trans rfl; have q1_3 := (box_cell BK1.out CH.out.head 3).trans rfl))
    go_ret
    exact ⟨rfl, CH.out.tail.head⟩
  rw [ht] at EF2
  simp only [Bool.true_and, Bool.not_false, Bool.not_true] at EF2
  have T7 := ht
  clear ht
  go_wp2_with (first | (go_at_call 49; (with_reducible refine (FH.out _ CH.out.tail.head).mono ?_); rintro e wx ⟨rfl, hb⟩; replace CH := Lib.hid (CH.out.step hb); clear hb; have q1_0 := (box_cell BK1.out CH.out.head 0).trans rfl; have q1_1 := (box_cell BK1.out CH.out.head 1).trans rfl; have q1_2 := (box_cell BK1.out CH.out.head 2).trans rfl; have q1_3 := (box_cell BK1.out CH.out.head 3).trans rfl) | (go_at_call 50; (with_reducible refine (FP.out _ CH.out.tail.head).mono ?_); rintro e wx ⟨rfl, hb⟩; replace CH := Lib.hid (CH.out.step hb); clear hb; have q1_0 := (box_cell BK1.out CH.out.head 0).trans rfl; have q1_1 := (box_cell BK1.out CH.out.head 1).trans rfl; have q1_2 := (box_cell BK1.out CH.out.head 2).trans rfl; have q1_3 := (box_cell BK1.out CH.out.head 3).trans rfl) | (go_at_call 56; (with_reducible refine (A1.out HSS.out _ CH.out.tail.head (blk_below BK1.out CH.out.head)).mono ?_); rintro e wx ⟨rfl, hb⟩; replace CH := Lib.hid (CH.out.step hb); clear hb; have q1_0 := (box_cell BK1.out CH.out.head 0).trans rfl; have q1_1 := (box_cell BK1.out CH.out.head 1).trans rfl; have q1_2 := (box_cell BK1.out CH.out.head 2).trans rfl; have q1_3 := (box_cell BK1.out CH.out.head 3).trans rfl) | (go_at_call 57; (with_reducible refine (A2.out HSS.out _ CH.out.tail.head (blk_below BK1.out CH.out.head)).mono ?_); rintro e wx ⟨rfl, hb⟩; replace CH := Lib.hid (CH.out.step hb); clear hb; have q1_0 := (box_cell BK1.out CH.out.head 0).trans rfl; have q1_1 := (box_cell BK1.out CH.out.head 1).trans rfl; have q1_2 := (box_cell BK1.out CH.out.head 2).trans rfl; have q1_3 := (box_cell BK1.out CH.out.head 3).trans rfl) | (go_at_call 58; (with_reducible refine (A3.out HSS.out _ CH.out.tail.head (blk_below BK1.out CH.out.head)).mono ?_); rintro e wx ⟨rfl, hb⟩; replace CH := Lib.hid (CH.out.step hb); clear hb; have q1_0 := (box_cell BK1.out CH.out.head 0).trans rfl; have q1_1 := (box_cell BK1.out CH.out.head 1).trans rfl; have q1_2 := (box_cell BK1.out CH.out.head 2).trans rfl; have q1_3 := (box_cell BK1.out CH.out.head 3).trans rfl))
  go_ret
  exact ⟨by rw [← EF2]; rfl, CH.out.tail.head⟩
end Go.Proofs.Ytjhfglpgpicmiaa.F
end
