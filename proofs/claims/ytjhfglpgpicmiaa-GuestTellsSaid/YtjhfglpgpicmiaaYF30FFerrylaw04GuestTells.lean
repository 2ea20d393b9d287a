import Derived.Below
import Derived.Deep.Draws
import Derived.Deep.AppendLies
import Derived.Maps.AppendAt
import Derived.OwnWalk
import Derived.Laws.BytesArg
import Derived.Laws.MakeOwn
import Derived.Laws.OwnMore
import Derived.Deep.OwnRows
import Derived.Tactics
import Derived.Lib.ConvBytes
import Derived.Laws.Slices
import Derived.WalkKit
import Derived.KernelRfl
import Derived.RowKit3
import Derived.Deep.LoopGhost
import Derived.Deep.QuietTactic
import Derived.BigQuiet
import Derived.WideLaws
import Derived.Deep.DeepCutAuto
import Derived.Deep.CutBlock
import Derived.Deep.RegionHeld3
import Derived.Laws.Rows
import Derived.Lib.AppendStr
import Derived.ArgAppend
import Derived.Laws.IdiomCopy
import Derived.RowKit
import Derived.OrdersHeld
import Derived.Laws.BitsLemmas
import Derived.Laws.StructEq
import Derived.OwnWalkIn
import Derived.WalkSmall
import Derived.Laws.ResultCell
import Derived.ProofKit
import Derived.Lib.Hide
import Derived.Shelf.RegionOpen
import Derived.Shelf.Abstract
import Derived.Lib.SliceRun
import Derived.Shelf.Spec.SlicesInsertGrow
import Derived.OpenShut
import Derived.Deep.Slices
import Derived.SizedLaws
import Derived.RangeFuncNested
import Derived.RangeFuncBound
import Derived.RangeFuncCalls
import Derived.RangeFuncLeaves
import Derived.RangeFuncWrites
import Derived.TacticsInMore
import Derived.LoopNIn
import Derived.LoopIn
import Derived.Stop.RegionWithIn
import Derived.Test.YtjhfglpgpicmiaaZF0
import Derived.Test.YtjhfglpgpicmiaaYA0
import Derived.Test.YtjhfglpgpicmiaaYA4HHost3
import Derived.Test.YtjhfglpgpicmiaaYA8FFerryref04Fit
import Derived.Test.YtjhfglpgpicmiaaYA9
import Derived.Test.YtjhfglpgpicmiaaYA11
import Derived.Test.YtjhfglpgpicmiaaYA13
import Derived.Test.YtjhfglpgpicmiaaYA16HGuest7
import Derived.Test.YtjhfglpgpicmiaaYA17
import Derived.Test.YtjhfglpgpicmiaaYA18FFerrylaw04Awake
import Derived.Test.YtjhfglpgpicmiaaYA19
import Derived.Test.YtjhfglpgpicmiaaYB20FFerryref04Same
import Derived.Test.YtjhfglpgpicmiaaYD22FFerryref04Place
import Derived.Test.YtjhfglpgpicmiaaYF24
import Derived.Test.YtjhfglpgpicmiaaYF27HGuest3
import Derived.Test.YtjhfglpgpicmiaaYF29FGuestSame
section
namespace Go.Proofs.Ytjhfglpgpicmiaa.F
open Go.RowKit Go.Proofs.YtjhfglpgpicmiaaW.PrintWords Go.Proofs.YtjhfglpgpicmiaaW.PrintLast Go.Proofs.YtjhfglpgpicmiaaW.PrintMore
attribute [local go_sem] max2_int min2_int max_two min_two max_three min_three max_four min_four
set_option linter.unusedVariables false
set_option linter.unusedSimpArgs false

mutual
def ferrylaw04_GuestTells.j0 : Nat → Int → Int → Bool → List (S55) → List (S60) → Int → List (S39) → List (S55) → List (S60) → Int → List (S39) → Option (Bool)
  | 0, _, _, _, _, _, _, _, _, _, _, _ => none
  | k + 1, x2, x3, x16, x632000, x632001, x632002, x632003, x633000, x633001, x633002, x633003 => if x16 = true then ((ferrylaw04_awake.f k).bind fun t635 => (some t635)) else ((guest_Fit.f x632000 x632001 x632002 x632003).bind fun t636 => ((ferryref04_Fit.f k x632000 x632001 x632002 x632003).bind fun t637 => (if (t636 != t637) = true then (ferrylaw04_GuestTells.j1 k x2 x3 true x632000 x632001 x632002 x632003) else ((guest_Same.f k x632000 x632001 x632002 x632003 x633000 x633001 x633002 x633003).bind fun t638 => ((ferryref04_Same.f k x632000 x632001 x632002 x632003 x633000 x633001 x633002 x633003).bind fun t639 => (if (t638 != t639) = true then (ferrylaw04_GuestTells.j1 k x2 x3 true x632000 x632001 x632002 x632003) else ((guest_Same.f k x632000 x632001 x632002 x632003 x632000 x632001 x632002 x632003).bind fun t640 => (ferrylaw04_GuestTells.j1 k x2 x3 (!t640) x632000 x632001 x632002 x632003))))))))
def ferrylaw04_GuestTells.j1 : Nat → Int → Int → Bool → List (S55) → List (S60) → Int → List (S39) → Option (Bool)
  | 0, _, _, _, _, _, _, _ => none
  | k + 1, x2, x3, x37, x632000, x632001, x632002, x632003 => if x37 = true then (none) else ((ferryref04_Fit.f k x632000 x632001 x632002 x632003).bind fun t641 => (if t641 = true then ((guest_Prot.f x632000 x632001 x632002 x632003 x2).bind fun t642 => ((ferryref04_Prot.f k x632000 x632001 x632002 x632003 x2).bind fun t643 => (if t642 = t643 then ((guest_Place.f x632000 x632001 x632002 x632003 x3).bind fun t644 => ((ferryref04_Place.f x632000 x632001 x632002 x632003 x3).bind fun t645 => (if t644 = t645 then ((ferrylaw04_awake.f k).bind fun t646 => (some t646)) else (none)))) else (none)))) else ((ferrylaw04_awake.f k).bind fun t647 => (some t647))))
end
def ferrylaw04_GuestTells.f (k : Nat) (l0_0 : List (S55)) (l0_1 : List (S60)) (a0_2 : Int) (l0_3 : List (S39)) (l1_0 : List (S55)) (l1_1 : List (S60)) (a1_2 : Int) (l1_3 : List (S39)) (a2 : Int) (a3 : Int) : Option (Bool) := (ferrylaw04_few.f l0_0 l0_1 a0_2 l0_3).bind fun t633 => (if t633 = true then ((ferrylaw04_few.f l1_0 l1_1 a1_2 l1_3).bind fun t634 => (ferrylaw04_GuestTells.j0 k a2 a3 (!t634) l0_0 l0_1 a0_2 l0_3 l1_0 l1_1 a1_2 l1_3)) else (ferrylaw04_GuestTells.j0 k a2 a3 true l0_0 l0_1 a0_2 l0_3 l1_0 l1_1 a1_2 l1_3))
def ferrylaw04_GuestTells.T3 : Bool × List (List Nat × List Nat) := (true, [([], []), ([0], [0]), ([], []), ([2, 1], [2]), ([1, 3], [1, 3]), ([4, 3], [4]), ([5], [5]), ([5], [5]), ([6, 7, 5, 5], [5, 6, 7]), ([5], [5]), ([5], [5]), ([9, 10, 8, 5], [5, 9, 10]), ([8, 11, 5], [5, 8, 11]), ([5, 12], [5, 12]), ([13, 11], [13]), ([14], [14]), ([14], [14]), ([15, 16, 14, 14], [14, 15, 16]), ([17, 14], [14, 17]), ([14, 18], [14, 18])])
def ferrylaw04_GuestTells.B3 : List Nat := [0, 1, 0, 7, 15, 31, 63, 63, 255, 63, 63, 2047, 4095, 8191, 16383, 32767, 32767, 131071, 262143, 524287]
theorem ferrylaw04_GuestTells.tab3 : rtab .any (opsOf Try.f7 3) = ferrylaw04_GuestTells.T3 := by kernel_rfl
theorem ferrylaw04_GuestTells.bits3 : waitsOk ferrylaw04_GuestTells.T3.2 ferrylaw04_GuestTells.B3 = true := by kernel_rfl
def ferrylaw04_GuestTells.T5 : Bool × List (List Nat × List Nat) := (true, [([], []), ([0], [0]), ([1], [1]), ([2, 1], [2]), ([3], [3]), ([3], [3]), ([4, 5, 3, 3], [3, 4, 5]), ([3], [3]), ([3], [3]), ([7, 8, 6, 3], [3, 7, 8]), ([6, 9, 3], [3, 6, 9]), ([10, 9, 3], [3, 10]), ([11], [11]), ([11], [11]), ([12, 13, 11, 11], [11, 12, 13]), ([11], [11]), ([11], [11]), ([15, 16, 14, 11], [11, 15, 16]), ([14, 17, 11], [11, 14, 17]), ([11, 18, 3], [3, 11, 18]), ([3, 19], [3, 19]), ([20, 17], [20]), ([21, 21], [21]), ([21, 22], [21, 22]), ([23, 22, 0, 1, 2, 3, 4, 5, 6, 7, 8, 9, 10, 11, 12, 13, 14, 15, 16, 17, 18, 19, 20, 21, 22, 23], [23])])
def ferrylaw04_GuestTells.B5 : List Nat := [0, 1, 3, 7, 15, 15, 63, 15, 15, 511, 1023, 2047, 4095, 4095, 16383, 4095, 4095, 131071, 262143, 524287, 1048575, 2097151, 4194303, 8388607, 16777215]
theorem ferrylaw04_GuestTells.tab5 : rtab .any (opsOf Try.f7 5) = ferrylaw04_GuestTells.T5 := by kernel_rfl
theorem ferrylaw04_GuestTells.bits5 : waitsOk ferrylaw04_GuestTells.T5.2 ferrylaw04_GuestTells.B5 = true := by kernel_rfl
set_option maxHeartbeats 8000000 in
set_option maxRecDepth 100000 in
theorem ferrylaw04_GuestTells.calls (k : Nat) (A0_0 : Option Addr) (c0_0 : Nat) (l0_0 : List (S55)) (A0_1 : Option Addr) (c0_1 : Nat) (l0_1 : List (S60)) (a0_2 : Int) (A0_3 : Option Addr) (c0_3 : Nat) (l0_3 : List (S39)) (A1_0 : Option Addr) (c1_0 : Nat) (l1_0 : List (S55)) (A1_1 : Option Addr) (c1_1 : Nat) (l1_1 : List (S60)) (a1_2 : Int) (A1_3 : Option Addr) (c1_3 : Nat) (l1_3 : List (S39)) (a2 : Int) (a3 : Int) (r : Bool) (w : World) (hr0_0 : Kd.C k55 w A0_0 l0_0.length l0_0) (hc0_0 : l0_0.length ≤ c0_0) (hr0_1 : Kd.C k60 w A0_1 l0_1.length l0_1) (hc0_1 : l0_1.length ≤ c0_1) (hr0_3 : Kd.C k39 w A0_3 l0_3.length l0_3) (hc0_3 : l0_3.length ≤ c0_3) (hr1_0 : Kd.C k55 w A1_0 l1_0.length l1_0) (hc1_0 : l1_0.length ≤ c1_0) (hr1_1 : Kd.C k60 w A1_1 l1_1.length l1_1) (hc1_1 : l1_1.length ≤ c1_1) (hr1_3 : Kd.C k39 w A1_3 l1_3.length l1_3) (hc1_3 : l1_3.length ≤ c1_3) (h : ferrylaw04_GuestTells.f k l0_0 l0_1 a0_2 l0_3 l1_0 l1_1 a1_2 l1_3 a2 a3 = some r) :
    Calls Try.prog 7 #[.agg #[.slice A0_0 l0_0.length c0_0, .slice A0_1 l0_1.length c0_1, .int .u64 a0_2, .slice A0_3 l0_3.length c0_3], .agg #[.slice A1_0 l1_0.length c1_0, .slice A1_1 l1_1.length c1_1, .int .u64 a1_2, .slice A1_3 l1_3.length c1_3], .int .u32 a2, .int .u32 a3] w fun e w' => e = .returned (.bool r) ∧ Below w.heap.size w w' := by
  have hu29 := Try.underlying29
  have HR0_0 := Aside0.mk hr0_0
  have HC0_0 := Aside0.mk hc0_0
  clear hr0_0 hc0_0
  have HR0_1 := Aside0.mk hr0_1
  have HC0_1 := Aside0.mk hc0_1
  clear hr0_1 hc0_1
  have HR0_3 := Aside0.mk hr0_3
  have HC0_3 := Aside0.mk hc0_3
  clear hr0_3 hc0_3
  have HR1_0 := Aside0.mk hr1_0
  have HC1_0 := Aside0.mk hc1_0
  clear hr1_0 hc1_0
  have HR1_1 := Aside0.mk hr1_1
  have HC1_1 := Aside0.mk hc1_1
  clear hr1_1 hc1_1
  have HR1_3 := Aside0.mk hr1_3
  have HC1_3 := Aside0.mk hc1_3
  clear hr1_3 hc1_3
  have HB := Aside0.mk (Below.refl w.heap.size w)
  have H : ((ferrylaw04_few.f l0_0 l0_1 a0_2 l0_3).bind fun t633 => (if t633 = true then ((ferrylaw04_few.f l1_0 l1_1 a1_2 l1_3).bind fun t634 => (ferrylaw04_GuestTells.j0 k a2 a3 (!t634) l0_0 l0_1 a0_2 l0_3 l1_0 l1_1 a1_2 l1_3)) else (ferrylaw04_GuestTells.j0 k a2 a3 true l0_0 l0_1 a0_2 l0_3 l1_0 l1_1 a1_2 l1_3))) = some r := h
  clear h
  have HC5 := Aside0.mk H
  clear H
  go_enter Try.func7, Try.ntmps7
  go_upto_region 1 with (first | ((with_reducible refine gate_dst (N := 4) rfl ?_); refine box_event ?hg (N := 4) ?hd (cs := #[.slice A0_0 l0_0.length c0_0, .slice A0_1 l0_1.length c0_1, .int .u64 a0_2, .slice A0_3 l0_3.length c0_3]) (t := 29) ?hr ?_; (case hd => rfl); (case hg => rfl); (case hr => first | (go_simp; done) | (go_simp; rfl)); intro gb631 hg w6 hbox hb; have n0_ := Aside0.mk (below_step beT_ hb); have n1_ := Aside0.mk (hbox); have n2_ := Aside0.mk ((by rw [hg]; exact (below_size beT_) : w.heap.size ≤ gb631)); have n3_ := Aside0.mk ((by rw [hg]; exact (below_size beT_) : w.heap.size ≤ gb631)); clear HB; have HB := n0_; have BK631 := n1_; have GW631 := n2_; have GE631 := n3_; clear n0_ n1_ n2_ n3_; clear hb hbox hg) | ((with_reducible refine gate_dst (N := 5) rfl ?_); refine box_event ?hg (N := 5) ?hd (cs := #[.slice A1_0 l1_0.length c1_0, .slice A1_1 l1_1.length c1_1, .int .u64 a1_2, .slice A1_3 l1_3.length c1_3]) (t := 29) ?hr ?_; (case hd => rfl); (case hg => rfl); (case hr => first | (go_simp; done) | (go_simp; rfl)); intro gb632 hg w7 hbox hb; have n0_ := Aside0.mk (blk_below (g := gb631) (o := .cells #[.slice A0_0 l0_0.length c0_0, .slice A0_1 l0_1.length c0_1, .int .u64 a0_2, .slice A0_3 l0_3.length c0_3] 29 (0, 0)) (bT_ BK631.out) hb); have n1_ := Aside0.mk (below_step beT_ hb); have n2_ := Aside0.mk (hbox); have n3_ := Aside0.mk ((by rw [hg]; exact (below_size beT_) : w.heap.size ≤ gb632)); have n4_ := Aside0.mk ((by rw [hg]; exact (below_size beT_) : w.heap.size ≤ gb632)); have n5_ := Aside0.mk ((by rw [hg]; exact Nat.ne_of_lt (blk_lt (g := gb631) (o := .cells #[.slice A0_0 l0_0.length c0_0, .slice A0_1 l0_1.length c0_1, .int .u64 a0_2, .slice A0_3 l0_3.length c0_3] 29 (0, 0)) (bT_ BK631.out)) : gb631 ≠ gb632)); have n6_ := Aside0.mk ((by rw [hg]; exact Nat.ne_of_gt (blk_lt (g := gb631) (o := .cells #[.slice A0_0 l0_0.length c0_0, .slice A0_1 l0_1.length c0_1, .int .u64 a0_2, .slice A0_3 l0_3.length c0_3] 29 (0, 0)) (bT_ BK631.out)) : gb632 ≠ gb631)); clear BK631; clear HB; have BK631 := n0_; have HB := n1_; have BK632 := n2_; have GW632 := n3_; have GE632 := n4_; have NB631_632 := n5_; have NB632_631 := n6_; clear n0_ n1_ n2_ n3_ n4_ n5_ n6_; clear hb hbox hg))
  (try simp only [Act.put, List.setIfInBounds_toArray, List.set_cons_zero, List.set_cons_succ])
  go_cut [16] (fun v16 wc => ∃ (kq : Nat) (x16_4 : Bool), v16 = .bool x16_4 ∧ Aside0 (ferrylaw04_GuestTells.j0 kq a2 a3 x16_4 l0_0 l0_1 a0_2 l0_3 l1_0 l1_1 a1_2 l1_3 = some r) ∧ Aside0 (kq ≤ k) ∧ Aside0 (wc.heap[gb631]? = some (.cells #[(.slice A0_0 l0_0.length c0_0), (.slice A0_1 l0_1.length c0_1), .int .u64 a0_2, (.slice A0_3 l0_3.length c0_3)] 29 (0, 0))) ∧ Aside0 (wc.heap[gb632]? = some (.cells #[(.slice A1_0 l1_0.length c1_0), (.slice A1_1 l1_1.length c1_1), .int .u64 a1_2, (.slice A1_3 l1_3.length c1_3)] 29 (0, 0))) ∧ Aside0 (Below w.heap.size w wc))
  case first =>
    have H := HC5.out
    clear HC5
    replace H := Option.bind_eq_some_iff.mp H
    obtain ⟨t633, A80, H⟩ := H
    replace H : (if t633 = true then ((ferrylaw04_few.f l1_0 l1_1 a1_2 l1_3).bind fun t634 => (ferrylaw04_GuestTells.j0 k a2 a3 (!t634) l0_0 l0_1 a0_2 l0_3 l1_0 l1_1 a1_2 l1_3)) else (ferrylaw04_GuestTells.j0 k a2 a3 true l0_0 l0_1 a0_2 l0_3 l1_0 l1_1 a1_2 l1_3)) = some r := H
    have A8 := Aside0.mk A80
    clear A80
    by_cases c9 : t633 = true
    · subst c9
      have H1 : ((ferrylaw04_few.f l1_0 l1_1 a1_2 l1_3).bind fun t634 => (ferrylaw04_GuestTells.j0 k a2 a3 (!t634) l0_0 l0_1 a0_2 l0_3 l1_0 l1_1 a1_2 l1_3)) = some r := by rw [if_pos rfl] at H; exact H
      clear H
      have H := H1
      clear H1
      replace H := Option.bind_eq_some_iff.mp H
      obtain ⟨t634, A100, H⟩ := H
      replace H : (ferrylaw04_GuestTells.j0 k a2 a3 (!t634) l0_0 l0_1 a0_2 l0_3 l1_0 l1_1 a1_2 l1_3) = some r := H
      have A10 := Aside0.mk A100
      clear A100
      have H' := Aside0.mk H
      clear H
      have hnb11 := NB631_632.out
      have hnc11 := NB632_631.out
      have hcz12_0 : w7.cell? ⟨gb631, 0, none⟩ = some (.slice A0_0 l0_0.length c0_0) := (blk_cell BK631.out 0).trans rfl
      have hcz12_1 : w7.cell? ⟨gb631, 1, none⟩ = some (.slice A0_1 l0_1.length c0_1) := (blk_cell BK631.out 1).trans rfl
      have hcz12_2 : w7.cell? ⟨gb631, 2, none⟩ = some (.int .u64 a0_2) := (blk_cell BK631.out 2).trans rfl
      have hcz12_3 : w7.cell? ⟨gb631, 3, none⟩ = some (.slice A0_3 l0_3.length c0_3) := (blk_cell BK631.out 3).trans rfl
      have hfz12_0 := blk_frozen BK631.out 0
      have hfz12_1 := blk_frozen BK631.out 1
      have hfz12_2 := blk_frozen BK631.out 2
      have hfz12_3 := blk_frozen BK631.out 3
      go_wp2_with (first | ((with_reducible refine gate_callee (f := 8) rfl ?_); refine goesL_ (some 10) rfl rfl Try.func8 (by kernel_rfl) rfl #[.agg #[.slice A0_0 l0_0.length c0_0, .slice A0_1 l0_1.length c0_1, .int .u64 a0_2, .slice A0_3 l0_3.length c0_3]] rfl (by (try simp only [List.map_toArray, List.map_cons, List.map_nil]); first | done | rfl | (simp only [List.length_drop, List.length_take]; rfl)) ?_; (with_reducible refine (ferrylaw04_few.calls _ _ l0_0 _ _ l0_1 a0_2 _ _ l0_3 true _ ?side1 ?side2 ?side3 ?side4 ?side5 ?side6 A8.out).mono ?_); (case side1 => repeat (first | exact (Kd.C_below HR0_0.out HB.out) | (with_reducible refine Kd.C_alloc ?_ _) | (with_reducible refine Kd.C_drewN ?_ _) | (with_reducible refine Kd.C_drew ?_))); (case side2 => exact HC0_0.out); (case side3 => repeat (first | exact (Kd.C_below HR0_1.out HB.out) | (with_reducible refine Kd.C_alloc ?_ _) | (with_reducible refine Kd.C_drewN ?_ _) | (with_reducible refine Kd.C_drew ?_))); (case side4 => exact HC0_1.out); (case side5 => repeat (first | exact (Kd.C_below HR0_3.out HB.out) | (with_reducible refine Kd.C_alloc ?_ _) | (with_reducible refine Kd.C_drewN ?_ _) | (with_reducible refine Kd.C_drew ?_))); (case side6 => exact HC0_3.out); rintro e w13 ⟨rfl, hb⟩; refine ⟨_, rfl, ?_⟩; have n0_ := Aside0.mk (blk_below (g := gb631) (o := .cells #[.slice A0_0 l0_0.length c0_0, .slice A0_1 l0_1.length c0_1, .int .u64 a0_2, .slice A0_3 l0_3.length c0_3] 29 (0, 0)) (bT_ BK631.out) hb); have n1_ := Aside0.mk (blk_below (g := gb632) (o := .cells #[.slice A1_0 l1_0.length c1_0, .slice A1_1 l1_1.length c1_1, .int .u64 a1_2, .slice A1_3 l1_3.length c1_3] 29 (0, 0)) (bT_ BK632.out) hb); have n2_ := Aside0.mk (below_step beT_ hb); clear BK631; clear BK632; clear HB; have BK631 := n0_; have BK632 := n1_; have HB := n2_; clear n0_ n1_ n2_; (try clear hb); (try clear hb2); (try clear hk); (try clear hi); have hcz14_0 : w13.cell? ⟨gb632, 0, none⟩ = some (.slice A1_0 l1_0.length c1_0) := (blk_cell BK632.out 0).trans rfl; have hcz14_1 : w13.cell? ⟨gb632, 1, none⟩ = some (.slice A1_1 l1_1.length c1_1) := (blk_cell BK632.out 1).trans rfl; have hcz14_2 : w13.cell? ⟨gb632, 2, none⟩ = some (.int .u64 a1_2) := (blk_cell BK632.out 2).trans rfl; have hcz14_3 : w13.cell? ⟨gb632, 3, none⟩ = some (.slice A1_3 l1_3.length c1_3) := (blk_cell BK632.out 3).trans rfl; have hfz14_0 := blk_frozen BK632.out 0; have hfz14_1 := blk_frozen BK632.out 1; have hfz14_2 := blk_frozen BK632.out 2; have hfz14_3 := blk_frozen BK632.out 3) | (go_at_call 8; (with_reducible refine (ferrylaw04_few.calls _ _ l1_0 _ _ l1_1 a1_2 _ _ l1_3 t634 _ ?side1 ?side2 ?side3 ?side4 ?side5 ?side6 A10.out).mono ?_); (case side1 => repeat (first | exact (Kd.C_below HR1_0.out HB.out) | (with_reducible refine Kd.C_alloc ?_ _) | (with_reducible refine Kd.C_drewN ?_ _) | (with_reducible refine Kd.C_drew ?_))); (case side2 => exact HC1_0.out); (case side3 => repeat (first | exact (Kd.C_below HR1_1.out HB.out) | (with_reducible refine Kd.C_alloc ?_ _) | (with_reducible refine Kd.C_drewN ?_ _) | (with_reducible refine Kd.C_drew ?_))); (case side4 => exact HC1_1.out); (case side5 => repeat (first | exact (Kd.C_below HR1_3.out HB.out) | (with_reducible refine Kd.C_alloc ?_ _) | (with_reducible refine Kd.C_drewN ?_ _) | (with_reducible refine Kd.C_drew ?_))); (case side6 => exact HC1_3.out); rintro e w15 ⟨rfl, hb⟩; have n0_ := Aside0.mk (blk_below (g := gb631) (o := .cells #[.slice A0_0 l0_0.length c0_0, .slice A0_1 l0_1.length c0_1, .int .u64 a0_2, .slice A0_3 l0_3.length c0_3] 29 (0, 0)) (bT_ BK631.out) hb); have n1_ := Aside0.mk (blk_below (g := gb632) (o := .cells #[.slice A1_0 l1_0.length c1_0, .slice A1_1 l1_1.length c1_1, .int .u64 a1_2, .slice A1_3 l1_3.length c1_3] 29 (0, 0)) (bT_ BK632.out) hb); have n2_ := Aside0.mk (below_step beT_ hb); clear BK631; clear BK632; clear HB; have BK631 := n0_; have BK632 := n1_; have HB := n2_; clear n0_ n1_ n2_; (try clear hb); (try clear hb2); (try clear hk); (try clear hi)))
      go_meet
      case rel => exact ⟨_, (!t634), (by first | rfl | (simp; done) | (simp [*]; done)), H', ⟨by first | omega | exact Nat.le_refl _⟩, ⟨by (with_reducible repeat (first | refine blk_drewN ?_ _ | refine blk_drew ?_ | refine blk_alloc ?_ _)); exact BK631.out⟩, ⟨by (with_reducible repeat (first | refine blk_drewN ?_ _ | refine blk_drew ?_ | refine blk_alloc ?_ _)); exact BK632.out⟩, ⟨by repeat (first | (with_reducible first | exact HB.out | apply below_alloc | apply pw_below_drewN | apply below_drew1 | refine below_set ?_ GE631.out | refine below_set ?_ GE632.out) | exact HB.out)⟩⟩
    replace c9 := Bool.eq_false_iff.mpr c9
    subst c9
    have H1 : (ferrylaw04_GuestTells.j0 k a2 a3 true l0_0 l0_1 a0_2 l0_3 l1_0 l1_1 a1_2 l1_3) = some r := by rw [if_neg (show ¬ (false = true) by decide)] at H; exact H
    clear H
    have H := H1
    clear H1
    have H' := Aside0.mk H
    clear H
    have hnb16 := NB631_632.out
    have hnc16 := NB632_631.out
    have hcz17_0 : w7.cell? ⟨gb631, 0, none⟩ = some (.slice A0_0 l0_0.length c0_0) := (blk_cell BK631.out 0).trans rfl
    have hcz17_1 : w7.cell? ⟨gb631, 1, none⟩ = some (.slice A0_1 l0_1.length c0_1) := (blk_cell BK631.out 1).trans rfl
    have hcz17_2 : w7.cell? ⟨gb631, 2, none⟩ = some (.int .u64 a0_2) := (blk_cell BK631.out 2).trans rfl
    have hcz17_3 : w7.cell? ⟨gb631, 3, none⟩ = some (.slice A0_3 l0_3.length c0_3) := (blk_cell BK631.out 3).trans rfl
    have hfz17_0 := blk_frozen BK631.out 0
    have hfz17_1 := blk_frozen BK631.out 1
    have hfz17_2 := blk_frozen BK631.out 2
    have hfz17_3 := blk_frozen BK631.out 3
    go_wp2_with (first | ((with_reducible refine gate_callee (f := 8) rfl ?_); refine goesL_ (some 10) rfl rfl Try.func8 (by kernel_rfl) rfl #[.agg #[.slice A0_0 l0_0.length c0_0, .slice A0_1 l0_1.length c0_1, .int .u64 a0_2, .slice A0_3 l0_3.length c0_3]] rfl (by (try simp only [List.map_toArray, List.map_cons, List.map_nil]); first | done | rfl | (simp only [List.length_drop, List.length_take]; rfl)) ?_; (with_reducible refine (ferrylaw04_few.calls _ _ l0_0 _ _ l0_1 a0_2 _ _ l0_3 false _ ?side1 ?side2 ?side3 ?side4 ?side5 ?side6 A8.out).mono ?_); (case side1 => repeat (first | exact (Kd.C_below HR0_0.out HB.out) | (with_reducible refine Kd.C_alloc ?_ _) | (with_reducible refine Kd.C_drewN ?_ _) | (with_reducible refine Kd.C_drew ?_))); (case side2 => exact HC0_0.out); (case side3 => repeat (first | exact (Kd.C_below HR0_1.out HB.out) | (with_reducible refine Kd.C_alloc ?_ _) | (with_reducible refine Kd.C_drewN ?_ _) | (with_reducible refine Kd.C_drew ?_))); (case side4 => exact HC0_1.out); (case side5 => repeat (first | exact (Kd.C_below HR0_3.out HB.out) | (with_reducible refine Kd.C_alloc ?_ _) | (with_reducible refine Kd.C_drewN ?_ _) | (with_reducible refine Kd.C_drew ?_))); (case side6 => exact HC0_3.out); rintro e w18 ⟨rfl, hb⟩; refine ⟨_, rfl, ?_⟩; have n0_ := Aside0.mk (blk_below (g := gb631) (o := .cells #[.slice A0_0 l0_0.length c0_0, .slice A0_1 l0_1.length c0_1, .int .u64 a0_2, .slice A0_3 l0_3.length c0_3] 29 (0, 0)) (bT_ BK631.out) hb); have n1_ := Aside0.mk (blk_below (g := gb632) (o := .cells #[.slice A1_0 l1_0.length c1_0, .slice A1_1 l1_1.length c1_1, .int .u64 a1_2, .slice A1_3 l1_3.length c1_3] 29 (0, 0)) (bT_ BK632.out) hb); have n2_ := Aside0.mk (below_step beT_ hb); clear BK631; clear BK632; clear HB; have BK631 := n0_; have BK632 := n1_; have HB := n2_; clear n0_ n1_ n2_; (try clear hb); (try clear hb2); (try clear hk); (try clear hi)))
    go_meet
    case rel => exact ⟨_, (true), (by first | rfl | (simp; done) | (simp [*]; done)), H', ⟨by first | omega | exact Nat.le_refl _⟩, ⟨by (with_reducible repeat (first | refine blk_drewN ?_ _ | refine blk_drew ?_ | refine blk_alloc ?_ _)); exact BK631.out⟩, ⟨by (with_reducible repeat (first | refine blk_drewN ?_ _ | refine blk_drew ?_ | refine blk_alloc ?_ _)); exact BK632.out⟩, ⟨by repeat (first | (with_reducible first | exact HB.out | apply below_alloc | apply pw_below_drewN | apply below_drew1 | refine below_set ?_ GE631.out | refine below_set ?_ GE632.out) | exact HB.out)⟩⟩
  case rest =>
    clear HC5
    try clear c1
    try clear p2
    try clear c7
    try clear c8
    try clear c9
    try clear c11
    try clear c16
    try clear hcz12_0
    try clear hcz12_1
    try clear hcz12_2
    try clear hcz12_3
    try clear hcz14_0
    try clear hcz14_1
    try clear hcz14_2
    try clear hcz14_3
    try clear hcz17_0
    try clear hcz17_1
    try clear hcz17_2
    try clear hcz17_3
    try clear hfz12_0
    try clear hfz12_1
    try clear hfz12_2
    try clear hfz12_3
    try clear hfz14_0
    try clear hfz14_1
    try clear hfz14_2
    try clear hfz14_3
    try clear hfz17_0
    try clear hfz17_1
    try clear hfz17_2
    try clear hfz17_3
    obtain ⟨kq, x16_4, rfl, HA, HJ4, BK631, BK632, HB⟩ := hcut
    cases kq with
    | zero => exact absurd HA.out (by simp [ferrylaw04_GuestTells.j0])
    | succ kj4 =>
      have H := HA.out
      clear HA
      simp only [ferrylaw04_GuestTells.j0] at H
      by_cases c19 : x16_4 = true
      · subst c19
        have H1 : ((ferrylaw04_awake.f kj4).bind fun t635 => (some t635)) = some r := by rw [if_pos rfl] at H; exact H
        clear H
        have H := H1
        clear H1
        replace H := Option.bind_eq_some_iff.mp H
        obtain ⟨t635, A200, H⟩ := H
        replace H : (some t635) = some r := H
        have A20 := Aside0.mk A200
        clear A200
        obtain rfl := Option.some.inj H
        go_wp2_with (first | ((with_reducible refine gate_callee (f := 10) rfl ?_); refine goesL_ (some 17) rfl rfl Try.func10 (by kernel_rfl) rfl #[] rfl (by (try simp only [List.map_toArray, List.map_cons, List.map_nil]); first | done | rfl | (simp only [List.length_drop, List.length_take]; rfl)) ?_; (with_reducible refine (ferrylaw04_awake.calls kj4  t635 _ A20.out).mono ?_); rintro e w21 ⟨rfl, hb⟩; refine ⟨_, rfl, ?_⟩; have n0_ := Aside0.mk (blk_below (g := gb631) (o := .cells #[.slice A0_0 l0_0.length c0_0, .slice A0_1 l0_1.length c0_1, .int .u64 a0_2, .slice A0_3 l0_3.length c0_3] 29 (0, 0)) (bT_ BK631.out) hb); have n1_ := Aside0.mk (blk_below (g := gb632) (o := .cells #[.slice A1_0 l1_0.length c1_0, .slice A1_1 l1_1.length c1_1, .int .u64 a1_2, .slice A1_3 l1_3.length c1_3] 29 (0, 0)) (bT_ BK632.out) hb); have n2_ := Aside0.mk (below_step beT_ hb); clear BK631; clear BK632; clear HB; have BK631 := n0_; have BK632 := n1_; have HB := n2_; clear n0_ n1_ n2_; (try clear hb); (try clear hb2); (try clear hk); (try clear hi)))
        go_ret
        exact ⟨by first | rfl | (simp [errW_none, errW_some] <;> rfl) | (simp [*, errW_none, errW_some] <;> rfl), by repeat (first | (with_reducible first | exact HB.out | apply below_alloc | apply pw_below_drewN | apply below_drew1 | refine below_set ?_ GE631.out | refine below_set ?_ GE632.out) | exact HB.out)⟩
      replace c19 := Bool.eq_false_iff.mpr c19
      subst c19
      have H1 : ((guest_Fit.f l0_0 l0_1 a0_2 l0_3).bind fun t636 => ((ferryref04_Fit.f kj4 l0_0 l0_1 a0_2 l0_3).bind fun t637 => (if (t636 != t637) = true then (ferrylaw04_GuestTells.j1 kj4 a2 a3 true l0_0 l0_1 a0_2 l0_3) else ((guest_Same.f kj4 l0_0 l0_1 a0_2 l0_3 l1_0 l1_1 a1_2 l1_3).bind fun t638 => ((ferryref04_Same.f kj4 l0_0 l0_1 a0_2 l0_3 l1_0 l1_1 a1_2 l1_3).bind fun t639 => (if (t638 != t639) = true then (ferrylaw04_GuestTells.j1 kj4 a2 a3 true l0_0 l0_1 a0_2 l0_3) else ((guest_Same.f kj4 l0_0 l0_1 a0_2 l0_3 l0_0 l0_1 a0_2 l0_3).bind fun t640 => (ferrylaw04_GuestTells.j1 kj4 a2 a3 (!t640) l0_0 l0_1 a0_2 l0_3)))))))) = some r := by rw [if_neg (show ¬ (false = true) by decide)] at H; exact H
      clear H
      have H := H1
      clear H1
      have HC22 := Aside0.mk H
      clear H
      go_upto_region 3 with (fail)
      go_cut [37] (fun v37 wc => ∃ (kq : Nat) (x37_21 : Bool), v37 = .bool x37_21 ∧ Aside0 (ferrylaw04_GuestTells.j1 kq a2 a3 x37_21 l0_0 l0_1 a0_2 l0_3 = some r) ∧ Aside0 (kq ≤ kj4) ∧ Aside0 (wc.heap[gb631]? = some (.cells #[(.slice A0_0 l0_0.length c0_0), (.slice A0_1 l0_1.length c0_1), .int .u64 a0_2, (.slice A0_3 l0_3.length c0_3)] 29 (0, 0))) ∧ Aside0 (wc.heap[gb632]? = some (.cells #[(.slice A1_0 l1_0.length c1_0), (.slice A1_1 l1_1.length c1_1), .int .u64 a1_2, (.slice A1_3 l1_3.length c1_3)] 29 (0, 0))) ∧ Aside0 (Below w.heap.size w wc))
      case first =>
        have H := HC22.out
        clear HC22
        replace H := Option.bind_eq_some_iff.mp H
        obtain ⟨t636, A230, H⟩ := H
        replace H : ((ferryref04_Fit.f kj4 l0_0 l0_1 a0_2 l0_3).bind fun t637 => (if (t636 != t637) = true then (ferrylaw04_GuestTells.j1 kj4 a2 a3 true l0_0 l0_1 a0_2 l0_3) else ((guest_Same.f kj4 l0_0 l0_1 a0_2 l0_3 l1_0 l1_1 a1_2 l1_3).bind fun t638 => ((ferryref04_Same.f kj4 l0_0 l0_1 a0_2 l0_3 l1_0 l1_1 a1_2 l1_3).bind fun t639 => (if (t638 != t639) = true then (ferrylaw04_GuestTells.j1 kj4 a2 a3 true l0_0 l0_1 a0_2 l0_3) else ((guest_Same.f kj4 l0_0 l0_1 a0_2 l0_3 l0_0 l0_1 a0_2 l0_3).bind fun t640 => (ferrylaw04_GuestTells.j1 kj4 a2 a3 (!t640) l0_0 l0_1 a0_2 l0_3))))))) = some r := H
        have A23 := Aside0.mk A230
        clear A230
        replace H := Option.bind_eq_some_iff.mp H
        obtain ⟨t637, A240, H⟩ := H
        replace H : (if (t636 != t637) = true then (ferrylaw04_GuestTells.j1 kj4 a2 a3 true l0_0 l0_1 a0_2 l0_3) else ((guest_Same.f kj4 l0_0 l0_1 a0_2 l0_3 l1_0 l1_1 a1_2 l1_3).bind fun t638 => ((ferryref04_Same.f kj4 l0_0 l0_1 a0_2 l0_3 l1_0 l1_1 a1_2 l1_3).bind fun t639 => (if (t638 != t639) = true then (ferrylaw04_GuestTells.j1 kj4 a2 a3 true l0_0 l0_1 a0_2 l0_3) else ((guest_Same.f kj4 l0_0 l0_1 a0_2 l0_3 l0_0 l0_1 a0_2 l0_3).bind fun t640 => (ferrylaw04_GuestTells.j1 kj4 a2 a3 (!t640) l0_0 l0_1 a0_2 l0_3)))))) = some r := H
        have A24 := Aside0.mk A240
        clear A240
        by_cases c25 : (t636 != t637) = true
        · rw [if_pos c25] at H
          have c25b0 : (t636 != t637) = true := c25
          (try (have c25b1 : decide (t636 = t637) = false := by simpa using c25))
          (try (have c25b2 : (t636 == t637) = false := by simpa using c25))
          (try (have c25b3 : ¬ (t636 = t637) := by simpa using c25))
          clear c25
          (first | rw [c25b0] | (simp only [i64_w, i32_w]; rw [c25b0]) | skip)
          have H' := Aside0.mk H
          clear H
          try go_wp2
          have n0_ := Aside0.mk (blk_drew BK631.out)
          have n1_ := Aside0.mk (blk_drew BK632.out)
          have n2_ := Aside0.mk (below_drew1 HB.out)
          clear BK631
          clear BK632
          clear HB
          have BK631 := n0_
          have BK632 := n1_
          have HB := n2_
          clear n0_ n1_ n2_
          refine start_ (n := 20) (S := fun w' => w'.cell? ⟨gb631, 0, none⟩ = some (.slice A0_0 l0_0.length c0_0) ∧ w'.cell? ⟨gb631, 1, none⟩ = some (.slice A0_1 l0_1.length c0_1) ∧ w'.cell? ⟨gb631, 2, none⟩ = some (.int .u64 a0_2) ∧ w'.cell? ⟨gb631, 3, none⟩ = some (.slice A0_3 l0_3.length c0_3)) (ds := []) #[false, false, false, false, false, false, false, false, false, false, false, false, false, false, false, false, false, false, false, false] (by kernel_rfl) rfl rfl ⟨(blk_cell BK631.out 0).trans rfl, (blk_cell BK631.out 1).trans rfl, (blk_cell BK631.out 2).trans rfl, (blk_cell BK631.out 3).trans rfl⟩ (fun hHeld => ?_); refine with_tabW ferrylaw04_GuestTells.tab3 ferrylaw04_GuestTells.bits3 (fun HT_ HW_ => ?_)
          generalize wc.drew = w26 at BK631 BK632 HB hHeld ⊢
          refine t4S_ 0 18 (mb_ 20 1) ?_
          refine t4S_ 2 20 (mb_ 20 5) ?_
          refine one_ (i := 1) (N := some 19) (mb_ 20 7) rfl rfl (one_of HT_.out (by kernel_rfl)) (by decide) (fun K hK => ?_)
          refine goes_ Try.func23 (by kernel_rfl) rfl #[.agg #[.slice A0_0 l0_0.length c0_0, .slice A0_1 l0_1.length c0_1, .int .u64 a0_2, .slice A0_3 l0_3.length c0_3]] (by rfl) rfl rfl (by (try simp only [List.map_toArray, List.map_cons, List.map_nil]); first | done | rfl | (simp only [List.length_drop, List.length_take]; rfl)) ?_
          with_reducible refine (guest_Fit.calls _ _ l0_0 _ _ l0_1 a0_2 _ _ l0_3 t636 _ ?side1 ?side2 ?side3 ?side4 ?side5 ?side6 A23.out).mono ?_
          (case side1 => repeat (first | exact (Kd.C_below HR0_0.out HB.out) | (with_reducible refine Kd.C_alloc ?_ _) | (with_reducible refine Kd.C_drewN ?_ _) | (with_reducible refine Kd.C_drew ?_)))
          (case side2 => exact HC0_0.out)
          (case side3 => repeat (first | exact (Kd.C_below HR0_1.out HB.out) | (with_reducible refine Kd.C_alloc ?_ _) | (with_reducible refine Kd.C_drewN ?_ _) | (with_reducible refine Kd.C_drew ?_)))
          (case side4 => exact HC0_1.out)
          (case side5 => repeat (first | exact (Kd.C_below HR0_3.out HB.out) | (with_reducible refine Kd.C_alloc ?_ _) | (with_reducible refine Kd.C_drewN ?_ _) | (with_reducible refine Kd.C_drew ?_)))
          (case side6 => exact HC0_3.out)
          rintro e w27 ⟨rfl, hb⟩
          refine ⟨_, rfl, ?_⟩
          have n0_ := Aside0.mk (blk_below (g := gb631) (o := .cells #[.slice A0_0 l0_0.length c0_0, .slice A0_1 l0_1.length c0_1, .int .u64 a0_2, .slice A0_3 l0_3.length c0_3] 29 (0, 0)) (bT_ BK631.out) hb)
          have n1_ := Aside0.mk (blk_below (g := gb632) (o := .cells #[.slice A1_0 l1_0.length c1_0, .slice A1_1 l1_1.length c1_1, .int .u64 a1_2, .slice A1_3 l1_3.length c1_3] 29 (0, 0)) (bT_ BK632.out) hb)
          have n2_ := Aside0.mk (below_step beT_ hb)
          clear BK631
          clear BK632
          clear HB
          have BK631 := n0_
          have BK632 := n1_
          have HB := n2_
          clear n0_ n1_ n2_
          (try clear hb)
          (try clear hb2)
          (try clear hk)
          (try clear hi)
          refine hK.out _ _ ⟨(blk_cell BK631.out 0).trans rfl, (blk_cell BK631.out 1).trans rfl, (blk_cell BK631.out 2).trans rfl, (blk_cell BK631.out 3).trans rfl⟩ (fun hHeld => ?_)
          clear hK K
          refine nS_ ?_
          refine one_ (i := 3) (N := some 21) (mb_ 20 15) rfl rfl (one_of HT_.out (by kernel_rfl)) (by decide) (fun K hK => ?_)
          refine goes_ Try.func9 (by kernel_rfl) rfl #[.agg #[.slice A0_0 l0_0.length c0_0, .slice A0_1 l0_1.length c0_1, .int .u64 a0_2, .slice A0_3 l0_3.length c0_3]] (by rfl) rfl rfl (by (try simp only [List.map_toArray, List.map_cons, List.map_nil]); first | done | rfl | (simp only [List.length_drop, List.length_take]; rfl)) ?_
          with_reducible refine (ferryref04_Fit.calls kj4 _ _ l0_0 _ _ l0_1 a0_2 _ _ l0_3 t637 _ ?side1 ?side2 ?side3 ?side4 ?side5 ?side6 A24.out).mono ?_
          (case side1 => repeat (first | exact (Kd.C_below HR0_0.out HB.out) | (with_reducible refine Kd.C_alloc ?_ _) | (with_reducible refine Kd.C_drewN ?_ _) | (with_reducible refine Kd.C_drew ?_)))
          (case side2 => exact HC0_0.out)
          (case side3 => repeat (first | exact (Kd.C_below HR0_1.out HB.out) | (with_reducible refine Kd.C_alloc ?_ _) | (with_reducible refine Kd.C_drewN ?_ _) | (with_reducible refine Kd.C_drew ?_)))
          (case side4 => exact HC0_1.out)
          (case side5 => repeat (first | exact (Kd.C_below HR0_3.out HB.out) | (with_reducible refine Kd.C_alloc ?_ _) | (with_reducible refine Kd.C_drewN ?_ _) | (with_reducible refine Kd.C_drew ?_)))
          (case side6 => exact HC0_3.out)
          rintro e w28 ⟨rfl, hb⟩
          refine ⟨_, rfl, ?_⟩
          have n0_ := Aside0.mk (blk_below (g := gb631) (o := .cells #[.slice A0_0 l0_0.length c0_0, .slice A0_1 l0_1.length c0_1, .int .u64 a0_2, .slice A0_3 l0_3.length c0_3] 29 (0, 0)) (bT_ BK631.out) hb)
          have n1_ := Aside0.mk (blk_below (g := gb632) (o := .cells #[.slice A1_0 l1_0.length c1_0, .slice A1_1 l1_1.length c1_1, .int .u64 a1_2, .slice A1_3 l1_3.length c1_3] 29 (0, 0)) (bT_ BK632.out) hb)
          have n2_ := Aside0.mk (below_step beT_ hb)
          clear BK631
          clear BK632
          clear HB
          have BK631 := n0_
          have BK632 := n1_
          have HB := n2_
          clear n0_ n1_ n2_
          (try clear hb)
          (try clear hb2)
          (try clear hk)
          (try clear hi)
          refine hK.out _ _ ⟨(blk_cell BK631.out 0).trans rfl, (blk_cell BK631.out 1).trans rfl, (blk_cell BK631.out 2).trans rfl, (blk_cell BK631.out 3).trans rfl⟩ (fun hHeld => ?_)
          clear hK K
          refine nS_ ?_
          refine pS_ 4 22 (mb_ 20 31) ?_
          refine pS_ 5 23 (mb_ 20 63) ?_
          refine uS_ 6 24 (mb_ 20 127) ?_
          refine uS_ 7 25 (mb_ 20 255) ?_
          refine uS_ 8 26 (mb_ 20 511) ?_
          refine uS_ 9 27 (mb_ 20 1023) ?_
          refine uS_ 10 28 (mb_ 20 2047) ?_
          refine uS_ 11 29 (mb_ 20 4095) ?_
          refine uS_ 12 30 (mb_ 20 8191) ?_
          refine pS_ 13 31 (mb_ 20 16383) ?_
          refine pS_ 14 32 (mb_ 20 32767) ?_
          refine uS_ 15 33 (mb_ 20 65535) ?_
          refine uS_ 16 34 (mb_ 20 131071) ?_
          refine uS_ 17 35 (mb_ 20 262143) ?_
          refine uS_ 18 36 (mb_ 20 524287) ?_
          refine pS_ 19 37 (mb_ 20 1048575) ?_
          refine done_ (done_of HT_.out (by kernel_rfl)) ?_
          try go_wp2
          go_meet
          case rel => exact ⟨_, (true), (by first | rfl | (simp; done) | (simp [*]; done)), H', ⟨by have := HJ4.out; first | omega | exact Nat.le_refl _⟩, ⟨by (with_reducible repeat (first | refine blk_drewN ?_ _ | refine blk_drew ?_ | refine blk_alloc ?_ _)); exact BK631.out⟩, ⟨by (with_reducible repeat (first | refine blk_drewN ?_ _ | refine blk_drew ?_ | refine blk_alloc ?_ _)); exact BK632.out⟩, ⟨by repeat (first | (with_reducible first | exact HB.out | apply below_alloc | apply pw_below_drewN | apply below_drew1 | refine below_set ?_ GE631.out | refine below_set ?_ GE632.out) | exact HB.out)⟩⟩
        rw [if_neg c25] at H
        have c25b0 : (t636 != t637) = false := by simpa using c25
        (try (have c25b1 : decide (t636 = t637) = true := by simpa using c25))
        (try (have c25b2 : (t636 == t637) = true := by simpa using c25))
        clear c25
        (first | rw [c25b0] | (simp only [i64_w, i32_w]; rw [c25b0]) | skip)
        replace H := Option.bind_eq_some_iff.mp H
        obtain ⟨t638, A290, H⟩ := H
        replace H : ((ferryref04_Same.f kj4 l0_0 l0_1 a0_2 l0_3 l1_0 l1_1 a1_2 l1_3).bind fun t639 => (if (t638 != t639) = true then (ferrylaw04_GuestTells.j1 kj4 a2 a3 true l0_0 l0_1 a0_2 l0_3) else ((guest_Same.f kj4 l0_0 l0_1 a0_2 l0_3 l0_0 l0_1 a0_2 l0_3).bind fun t640 => (ferrylaw04_GuestTells.j1 kj4 a2 a3 (!t640) l0_0 l0_1 a0_2 l0_3)))) = some r := H
        have A29 := Aside0.mk A290
        clear A290
        replace H := Option.bind_eq_some_iff.mp H
        obtain ⟨t639, A300, H⟩ := H
        replace H : (if (t638 != t639) = true then (ferrylaw04_GuestTells.j1 kj4 a2 a3 true l0_0 l0_1 a0_2 l0_3) else ((guest_Same.f kj4 l0_0 l0_1 a0_2 l0_3 l0_0 l0_1 a0_2 l0_3).bind fun t640 => (ferrylaw04_GuestTells.j1 kj4 a2 a3 (!t640) l0_0 l0_1 a0_2 l0_3))) = some r := H
        have A30 := Aside0.mk A300
        clear A300
        by_cases c31 : (t638 != t639) = true
        · rw [if_pos c31] at H
          have c31b0 : (t638 != t639) = true := c31
          (try (have c31b1 : decide (t638 = t639) = false := by simpa using c31))
          (try (have c31b2 : (t638 == t639) = false := by simpa using c31))
          (try (have c31b3 : ¬ (t638 = t639) := by simpa using c31))
          clear c31
          have H' := Aside0.mk H
          clear H
          try go_wp2
          have n0_ := Aside0.mk (blk_drew BK631.out)
          have n1_ := Aside0.mk (blk_drew BK632.out)
          have n2_ := Aside0.mk (below_drew1 HB.out)
          clear BK631
          clear BK632
          clear HB
          have BK631 := n0_
          have BK632 := n1_
          have HB := n2_
          clear n0_ n1_ n2_
          refine start_ (n := 20) (S := fun w' => w'.cell? ⟨gb631, 0, none⟩ = some (.slice A0_0 l0_0.length c0_0) ∧ w'.cell? ⟨gb631, 1, none⟩ = some (.slice A0_1 l0_1.length c0_1) ∧ w'.cell? ⟨gb631, 2, none⟩ = some (.int .u64 a0_2) ∧ w'.cell? ⟨gb631, 3, none⟩ = some (.slice A0_3 l0_3.length c0_3) ∧ w'.cell? ⟨gb632, 0, none⟩ = some (.slice A1_0 l1_0.length c1_0) ∧ w'.cell? ⟨gb632, 1, none⟩ = some (.slice A1_1 l1_1.length c1_1) ∧ w'.cell? ⟨gb632, 2, none⟩ = some (.int .u64 a1_2) ∧ w'.cell? ⟨gb632, 3, none⟩ = some (.slice A1_3 l1_3.length c1_3)) (ds := []) #[false, false, false, false, false, false, false, false, false, false, false, false, false, false, false, false, false, false, false, false] (by kernel_rfl) rfl rfl ⟨(blk_cell BK631.out 0).trans rfl, (blk_cell BK631.out 1).trans rfl, (blk_cell BK631.out 2).trans rfl, (blk_cell BK631.out 3).trans rfl, (blk_cell BK632.out 0).trans rfl, (blk_cell BK632.out 1).trans rfl, (blk_cell BK632.out 2).trans rfl, (blk_cell BK632.out 3).trans rfl⟩ (fun hHeld => ?_); refine with_tabW ferrylaw04_GuestTells.tab3 ferrylaw04_GuestTells.bits3 (fun HT_ HW_ => ?_)
          generalize wc.drew = w32 at BK631 BK632 HB hHeld ⊢
          refine t8S_ 0 18 (mb_ 20 1) ?_
          refine t8S_ 2 20 (mb_ 20 5) ?_
          refine one_ (i := 1) (N := some 19) (mb_ 20 7) rfl rfl (one_of HT_.out (by kernel_rfl)) (by decide) (fun K hK => ?_)
          refine goes_ Try.func23 (by kernel_rfl) rfl #[.agg #[.slice A0_0 l0_0.length c0_0, .slice A0_1 l0_1.length c0_1, .int .u64 a0_2, .slice A0_3 l0_3.length c0_3]] (by rfl) rfl rfl (by (try simp only [List.map_toArray, List.map_cons, List.map_nil]); first | done | rfl | (simp only [List.length_drop, List.length_take]; rfl)) ?_
          with_reducible refine (guest_Fit.calls _ _ l0_0 _ _ l0_1 a0_2 _ _ l0_3 t636 _ ?side1 ?side2 ?side3 ?side4 ?side5 ?side6 A23.out).mono ?_
          (case side1 => repeat (first | exact (Kd.C_below HR0_0.out HB.out) | (with_reducible refine Kd.C_alloc ?_ _) | (with_reducible refine Kd.C_drewN ?_ _) | (with_reducible refine Kd.C_drew ?_)))
          (case side2 => exact HC0_0.out)
          (case side3 => repeat (first | exact (Kd.C_below HR0_1.out HB.out) | (with_reducible refine Kd.C_alloc ?_ _) | (with_reducible refine Kd.C_drewN ?_ _) | (with_reducible refine Kd.C_drew ?_)))
          (case side4 => exact HC0_1.out)
          (case side5 => repeat (first | exact (Kd.C_below HR0_3.out HB.out) | (with_reducible refine Kd.C_alloc ?_ _) | (with_reducible refine Kd.C_drewN ?_ _) | (with_reducible refine Kd.C_drew ?_)))
          (case side6 => exact HC0_3.out)
          rintro e w33 ⟨rfl, hb⟩
          refine ⟨_, rfl, ?_⟩
          have n0_ := Aside0.mk (blk_below (g := gb631) (o := .cells #[.slice A0_0 l0_0.length c0_0, .slice A0_1 l0_1.length c0_1, .int .u64 a0_2, .slice A0_3 l0_3.length c0_3] 29 (0, 0)) (bT_ BK631.out) hb)
          have n1_ := Aside0.mk (blk_below (g := gb632) (o := .cells #[.slice A1_0 l1_0.length c1_0, .slice A1_1 l1_1.length c1_1, .int .u64 a1_2, .slice A1_3 l1_3.length c1_3] 29 (0, 0)) (bT_ BK632.out) hb)
          have n2_ := Aside0.mk (below_step beT_ hb)
          clear BK631
          clear BK632
          clear HB
          have BK631 := n0_
          have BK632 := n1_
          have HB := n2_
          clear n0_ n1_ n2_
          (try clear hb)
          (try clear hb2)
          (try clear hk)
          (try clear hi)
          refine hK.out _ _ ⟨(blk_cell BK631.out 0).trans rfl, (blk_cell BK631.out 1).trans rfl, (blk_cell BK631.out 2).trans rfl, (blk_cell BK631.out 3).trans rfl, (blk_cell BK632.out 0).trans rfl, (blk_cell BK632.out 1).trans rfl, (blk_cell BK632.out 2).trans rfl, (blk_cell BK632.out 3).trans rfl⟩ (fun hHeld => ?_)
          clear hK K
          refine nS_ ?_
          refine one_ (i := 3) (N := some 21) (mb_ 20 15) rfl rfl (one_of HT_.out (by kernel_rfl)) (by decide) (fun K hK => ?_)
          refine goes_ Try.func9 (by kernel_rfl) rfl #[.agg #[.slice A0_0 l0_0.length c0_0, .slice A0_1 l0_1.length c0_1, .int .u64 a0_2, .slice A0_3 l0_3.length c0_3]] (by rfl) rfl rfl (by (try simp only [List.map_toArray, List.map_cons, List.map_nil]); first | done | rfl | (simp only [List.length_drop, List.length_take]; rfl)) ?_
          with_reducible refine (ferryref04_Fit.calls kj4 _ _ l0_0 _ _ l0_1 a0_2 _ _ l0_3 t637 _ ?side1 ?side2 ?side3 ?side4 ?side5 ?side6 A24.out).mono ?_
          (case side1 => repeat (first | exact (Kd.C_below HR0_0.out HB.out) | (with_reducible refine Kd.C_alloc ?_ _) | (with_reducible refine Kd.C_drewN ?_ _) | (with_reducible refine Kd.C_drew ?_)))
          (case side2 => exact HC0_0.out)
          (case side3 => repeat (first | exact (Kd.C_below HR0_1.out HB.out) | (with_reducible refine Kd.C_alloc ?_ _) | (with_reducible refine Kd.C_drewN ?_ _) | (with_reducible refine Kd.C_drew ?_)))
          (case side4 => exact HC0_1.out)
          (case side5 => repeat (first | exact (Kd.C_below HR0_3.out HB.out) | (with_reducible refine Kd.C_alloc ?_ _) | (with_reducible refine Kd.C_drewN ?_ _) | (with_reducible refine Kd.C_drew ?_)))
          (case side6 => exact HC0_3.out)
          rintro e w34 ⟨rfl, hb⟩
          refine ⟨_, rfl, ?_⟩
          have n0_ := Aside0.mk (blk_below (g := gb631) (o := .cells #[.slice A0_0 l0_0.length c0_0, .slice A0_1 l0_1.length c0_1, .int .u64 a0_2, .slice A0_3 l0_3.length c0_3] 29 (0, 0)) (bT_ BK631.out) hb)
          have n1_ := Aside0.mk (blk_below (g := gb632) (o := .cells #[.slice A1_0 l1_0.length c1_0, .slice A1_1 l1_1.length c1_1, .int .u64 a1_2, .slice A1_3 l1_3.length c1_3] 29 (0, 0)) (bT_ BK632.out) hb)
          have n2_ := Aside0.mk (below_step beT_ hb)
          clear BK631
          clear BK632
          clear HB
          have BK631 := n0_
          have BK632 := n1_
          have HB := n2_
          clear n0_ n1_ n2_
          (try clear hb)
          (try clear hb2)
          (try clear hk)
          (try clear hi)
          refine hK.out _ _ ⟨(blk_cell BK631.out 0).trans rfl, (blk_cell BK631.out 1).trans rfl, (blk_cell BK631.out 2).trans rfl, (blk_cell BK631.out 3).trans rfl, (blk_cell BK632.out 0).trans rfl, (blk_cell BK632.out 1).trans rfl, (blk_cell BK632.out 2).trans rfl, (blk_cell BK632.out 3).trans rfl⟩ (fun hHeld => ?_)
          clear hK K
          refine nS_ ?_
          refine pS_ 4 22 (mb_ 20 31) ?_
          refine pS_ 5 23 (mb_ 20 63) ?_
          refine t8S_ 6 24 (mb_ 20 127) ?_
          refine t8S_ 7 25 (mb_ 20 255) ?_
          refine t8S_ 9 27 (mb_ 20 767) ?_
          refine t8S_ 10 28 (mb_ 20 1791) ?_
          refine one_ (i := 8) (N := some 26) (mb_ 20 2047) rfl rfl (one_of HT_.out (by kernel_rfl)) (by decide) (fun K hK => ?_)
          refine goes_ Try.func24 (by kernel_rfl) rfl #[.agg #[.slice A0_0 l0_0.length c0_0, .slice A0_1 l0_1.length c0_1, .int .u64 a0_2, .slice A0_3 l0_3.length c0_3], .agg #[.slice A1_0 l1_0.length c1_0, .slice A1_1 l1_1.length c1_1, .int .u64 a1_2, .slice A1_3 l1_3.length c1_3]] (by rfl) rfl rfl (by (try simp only [List.map_toArray, List.map_cons, List.map_nil]); first | done | rfl | (simp only [List.length_drop, List.length_take]; rfl)) ?_
          with_reducible refine (guest_Same.calls kj4 _ _ l0_0 _ _ l0_1 a0_2 _ _ l0_3 _ _ l1_0 _ _ l1_1 a1_2 _ _ l1_3 t638 _ ?side1 ?side2 ?side3 ?side4 ?side5 ?side6 ?side7 ?side8 ?side9 ?side10 ?side11 ?side12 A29.out).mono ?_
          (case side1 => repeat (first | exact (Kd.C_below HR0_0.out HB.out) | (with_reducible refine Kd.C_alloc ?_ _) | (with_reducible refine Kd.C_drewN ?_ _) | (with_reducible refine Kd.C_drew ?_)))
          (case side2 => exact HC0_0.out)
          (case side3 => repeat (first | exact (Kd.C_below HR0_1.out HB.out) | (with_reducible refine Kd.C_alloc ?_ _) | (with_reducible refine Kd.C_drewN ?_ _) | (with_reducible refine Kd.C_drew ?_)))
          (case side4 => exact HC0_1.out)
          (case side5 => repeat (first | exact (Kd.C_below HR0_3.out HB.out) | (with_reducible refine Kd.C_alloc ?_ _) | (with_reducible refine Kd.C_drewN ?_ _) | (with_reducible refine Kd.C_drew ?_)))
          (case side6 => exact HC0_3.out)
          (case side7 => repeat (first | exact (Kd.C_below HR1_0.out HB.out) | (with_reducible refine Kd.C_alloc ?_ _) | (with_reducible refine Kd.C_drewN ?_ _) | (with_reducible refine Kd.C_drew ?_)))
          (case side8 => exact HC1_0.out)
          (case side9 => repeat (first | exact (Kd.C_below HR1_1.out HB.out) | (with_reducible refine Kd.C_alloc ?_ _) | (with_reducible refine Kd.C_drewN ?_ _) | (with_reducible refine Kd.C_drew ?_)))
          (case side10 => exact HC1_1.out)
          (case side11 => repeat (first | exact (Kd.C_below HR1_3.out HB.out) | (with_reducible refine Kd.C_alloc ?_ _) | (with_reducible refine Kd.C_drewN ?_ _) | (with_reducible refine Kd.C_drew ?_)))
          (case side12 => exact HC1_3.out)
          rintro e w35 ⟨rfl, hb⟩
          refine ⟨_, rfl, ?_⟩
          have n0_ := Aside0.mk (blk_below (g := gb631) (o := .cells #[.slice A0_0 l0_0.length c0_0, .slice A0_1 l0_1.length c0_1, .int .u64 a0_2, .slice A0_3 l0_3.length c0_3] 29 (0, 0)) (bT_ BK631.out) hb)
          have n1_ := Aside0.mk (blk_below (g := gb632) (o := .cells #[.slice A1_0 l1_0.length c1_0, .slice A1_1 l1_1.length c1_1, .int .u64 a1_2, .slice A1_3 l1_3.length c1_3] 29 (0, 0)) (bT_ BK632.out) hb)
          have n2_ := Aside0.mk (below_step beT_ hb)
          clear BK631
          clear BK632
          clear HB
          have BK631 := n0_
          have BK632 := n1_
          have HB := n2_
          clear n0_ n1_ n2_
          (try clear hb)
          (try clear hb2)
          (try clear hk)
          (try clear hi)
          refine hK.out _ _ ⟨(blk_cell BK631.out 0).trans rfl, (blk_cell BK631.out 1).trans rfl, (blk_cell BK631.out 2).trans rfl, (blk_cell BK631.out 3).trans rfl, (blk_cell BK632.out 0).trans rfl, (blk_cell BK632.out 1).trans rfl, (blk_cell BK632.out 2).trans rfl, (blk_cell BK632.out 3).trans rfl⟩ (fun hHeld => ?_)
          clear hK K
          refine nS_ ?_
          refine one_ (i := 11) (N := some 29) (mb_ 20 4095) rfl rfl (one_of HT_.out (by kernel_rfl)) (by decide) (fun K hK => ?_)
          refine goes_ Try.func13 (by kernel_rfl) rfl #[.agg #[.slice A0_0 l0_0.length c0_0, .slice A0_1 l0_1.length c0_1, .int .u64 a0_2, .slice A0_3 l0_3.length c0_3], .agg #[.slice A1_0 l1_0.length c1_0, .slice A1_1 l1_1.length c1_1, .int .u64 a1_2, .slice A1_3 l1_3.length c1_3]] (by rfl) rfl rfl (by (try simp only [List.map_toArray, List.map_cons, List.map_nil]); first | done | rfl | (simp only [List.length_drop, List.length_take]; rfl)) ?_
          with_reducible refine (ferryref04_Same.calls kj4 _ _ l0_0 _ _ l0_1 a0_2 _ _ l0_3 _ _ l1_0 _ _ l1_1 a1_2 _ _ l1_3 t639 _ ?side1 ?side2 ?side3 ?side4 ?side5 ?side6 ?side7 ?side8 ?side9 ?side10 ?side11 ?side12 A30.out).mono ?_
          (case side1 => repeat (first | exact (Kd.C_below HR0_0.out HB.out) | (with_reducible refine Kd.C_alloc ?_ _) | (with_reducible refine Kd.C_drewN ?_ _) | (with_reducible refine Kd.C_drew ?_)))
          (case side2 => exact HC0_0.out)
          (case side3 => repeat (first | exact (Kd.C_below HR0_1.out HB.out) | (with_reducible refine Kd.C_alloc ?_ _) | (with_reducible refine Kd.C_drewN ?_ _) | (with_reducible refine Kd.C_drew ?_)))
          (case side4 => exact HC0_1.out)
          (case side5 => repeat (first | exact (Kd.C_below HR0_3.out HB.out) | (with_reducible refine Kd.C_alloc ?_ _) | (with_reducible refine Kd.C_drewN ?_ _) | (with_reducible refine Kd.C_drew ?_)))
          (case side6 => exact HC0_3.out)
          (case side7 => repeat (first | exact (Kd.C_below HR1_0.out HB.out) | (with_reducible refine Kd.C_alloc ?_ _) | (with_reducible refine Kd.C_drewN ?_ _) | (with_reducible refine Kd.C_drew ?_)))
          (case side8 => exact HC1_0.out)
          (case side9 => repeat (first | exact (Kd.C_below HR1_1.out HB.out) | (with_reducible refine Kd.C_alloc ?_ _) | (with_reducible refine Kd.C_drewN ?_ _) | (with_reducible refine Kd.C_drew ?_)))
          (case side10 => exact HC1_1.out)
          (case side11 => repeat (first | exact (Kd.C_below HR1_3.out HB.out) | (with_reducible refine Kd.C_alloc ?_ _) | (with_reducible refine Kd.C_drewN ?_ _) | (with_reducible refine Kd.C_drew ?_)))
          (case side12 => exact HC1_3.out)
          rintro e w36 ⟨rfl, hb⟩
          refine ⟨_, rfl, ?_⟩
          have n0_ := Aside0.mk (blk_below (g := gb631) (o := .cells #[.slice A0_0 l0_0.length c0_0, .slice A0_1 l0_1.length c0_1, .int .u64 a0_2, .slice A0_3 l0_3.length c0_3] 29 (0, 0)) (bT_ BK631.out) hb)
          have n1_ := Aside0.mk (blk_below (g := gb632) (o := .cells #[.slice A1_0 l1_0.length c1_0, .slice A1_1 l1_1.length c1_1, .int .u64 a1_2, .slice A1_3 l1_3.length c1_3] 29 (0, 0)) (bT_ BK632.out) hb)
          have n2_ := Aside0.mk (below_step beT_ hb)
          clear BK631
          clear BK632
          clear HB
          have BK631 := n0_
          have BK632 := n1_
          have HB := n2_
          clear n0_ n1_ n2_
          (try clear hb)
          (try clear hb2)
          (try clear hk)
          (try clear hi)
          refine hK.out _ _ ⟨(blk_cell BK631.out 0).trans rfl, (blk_cell BK631.out 1).trans rfl, (blk_cell BK631.out 2).trans rfl, (blk_cell BK631.out 3).trans rfl, (blk_cell BK632.out 0).trans rfl, (blk_cell BK632.out 1).trans rfl, (blk_cell BK632.out 2).trans rfl, (blk_cell BK632.out 3).trans rfl⟩ (fun hHeld => ?_)
          clear hK K
          refine nS_ ?_
          refine pS_ 12 30 (mb_ 20 8191) ?_
          refine pS_ 13 31 (mb_ 20 16383) ?_
          refine pS_ 14 32 (mb_ 20 32767) ?_
          refine uS_ 15 33 (mb_ 20 65535) ?_
          refine uS_ 16 34 (mb_ 20 131071) ?_
          refine uS_ 17 35 (mb_ 20 262143) ?_
          refine uS_ 18 36 (mb_ 20 524287) ?_
          refine pS_ 19 37 (mb_ 20 1048575) ?_
          refine done_ (done_of HT_.out (by kernel_rfl)) ?_
          try go_wp2
          go_meet
          case rel => exact ⟨_, (true), (by first | rfl | (simp; done) | (simp [*]; done)), H', ⟨by have := HJ4.out; first | omega | exact Nat.le_refl _⟩, ⟨by (with_reducible repeat (first | refine blk_drewN ?_ _ | refine blk_drew ?_ | refine blk_alloc ?_ _)); exact BK631.out⟩, ⟨by (with_reducible repeat (first | refine blk_drewN ?_ _ | refine blk_drew ?_ | refine blk_alloc ?_ _)); exact BK632.out⟩, ⟨by repeat (first | (with_reducible first | exact HB.out | apply below_alloc | apply pw_below_drewN | apply below_drew1 | refine below_set ?_ GE631.out | refine below_set ?_ GE632.out) | exact HB.out)⟩⟩
        rw [if_neg c31] at H
        have c31b0 : (t638 != t639) = false := by simpa using c31
        (try (have c31b1 : decide (t638 = t639) = true := by simpa using c31))
        (try (have c31b2 : (t638 == t639) = true := by simpa using c31))
        clear c31
        replace H := Option.bind_eq_some_iff.mp H
        obtain ⟨t640, A370, H⟩ := H
        replace H : (ferrylaw04_GuestTells.j1 kj4 a2 a3 (!t640) l0_0 l0_1 a0_2 l0_3) = some r := H
        have A37 := Aside0.mk A370
        clear A370
        have H' := Aside0.mk H
        clear H
        try go_wp2
        have n0_ := Aside0.mk (blk_drew BK631.out)
        have n1_ := Aside0.mk (blk_drew BK632.out)
        have n2_ := Aside0.mk (below_drew1 HB.out)
        clear BK631
        clear BK632
        clear HB
        have BK631 := n0_
        have BK632 := n1_
        have HB := n2_
        clear n0_ n1_ n2_
        refine start_ (n := 20) (S := fun w' => w'.cell? ⟨gb631, 0, none⟩ = some (.slice A0_0 l0_0.length c0_0) ∧ w'.cell? ⟨gb631, 1, none⟩ = some (.slice A0_1 l0_1.length c0_1) ∧ w'.cell? ⟨gb631, 2, none⟩ = some (.int .u64 a0_2) ∧ w'.cell? ⟨gb631, 3, none⟩ = some (.slice A0_3 l0_3.length c0_3) ∧ w'.cell? ⟨gb632, 0, none⟩ = some (.slice A1_0 l1_0.length c1_0) ∧ w'.cell? ⟨gb632, 1, none⟩ = some (.slice A1_1 l1_1.length c1_1) ∧ w'.cell? ⟨gb632, 2, none⟩ = some (.int .u64 a1_2) ∧ w'.cell? ⟨gb632, 3, none⟩ = some (.slice A1_3 l1_3.length c1_3)) (ds := []) #[false, false, false, false, false, false, false, false, false, false, false, false, false, false, false, false, false, false, false, false] (by kernel_rfl) rfl rfl ⟨(blk_cell BK631.out 0).trans rfl, (blk_cell BK631.out 1).trans rfl, (blk_cell BK631.out 2).trans rfl, (blk_cell BK631.out 3).trans rfl, (blk_cell BK632.out 0).trans rfl, (blk_cell BK632.out 1).trans rfl, (blk_cell BK632.out 2).trans rfl, (blk_cell BK632.out 3).trans rfl⟩ (fun hHeld => ?_); refine with_tabW ferrylaw04_GuestTells.tab3 ferrylaw04_GuestTells.bits3 (fun HT_ HW_ => ?_)
        generalize wc.drew = w38 at BK631 BK632 HB hHeld ⊢
        refine t8S_ 0 18 (mb_ 20 1) ?_
        refine t8S_ 2 20 (mb_ 20 5) ?_
        refine one_ (i := 1) (N := some 19) (mb_ 20 7) rfl rfl (one_of HT_.out (by kernel_rfl)) (by decide) (fun K hK => ?_)
        refine goes_ Try.func23 (by kernel_rfl) rfl #[.agg #[.slice A0_0 l0_0.length c0_0, .slice A0_1 l0_1.length c0_1, .int .u64 a0_2, .slice A0_3 l0_3.length c0_3]] (by rfl) rfl rfl (by (try simp only [List.map_toArray, List.map_cons, List.map_nil]); first | done | rfl | (simp only [List.length_drop, List.length_take]; rfl)) ?_
        with_reducible refine (guest_Fit.calls _ _ l0_0 _ _ l0_1 a0_2 _ _ l0_3 t636 _ ?side1 ?side2 ?side3 ?side4 ?side5 ?side6 A23.out).mono ?_
        (case side1 => repeat (first | exact (Kd.C_below HR0_0.out HB.out) | (with_reducible refine Kd.C_alloc ?_ _) | (with_reducible refine Kd.C_drewN ?_ _) | (with_reducible refine Kd.C_drew ?_)))
        (case side2 => exact HC0_0.out)
        (case side3 => repeat (first | exact (Kd.C_below HR0_1.out HB.out) | (with_reducible refine Kd.C_alloc ?_ _) | (with_reducible refine Kd.C_drewN ?_ _) | (with_reducible refine Kd.C_drew ?_)))
        (case side4 => exact HC0_1.out)
        (case side5 => repeat (first | exact (Kd.C_below HR0_3.out HB.out) | (with_reducible refine Kd.C_alloc ?_ _) | (with_reducible refine Kd.C_drewN ?_ _) | (with_reducible refine Kd.C_drew ?_)))
        (case side6 => exact HC0_3.out)
        rintro e w39 ⟨rfl, hb⟩
        refine ⟨_, rfl, ?_⟩
        have n0_ := Aside0.mk (blk_below (g := gb631) (o := .cells #[.slice A0_0 l0_0.length c0_0, .slice A0_1 l0_1.length c0_1, .int .u64 a0_2, .slice A0_3 l0_3.length c0_3] 29 (0, 0)) (bT_ BK631.out) hb)
        have n1_ := Aside0.mk (blk_below (g := gb632) (o := .cells #[.slice A1_0 l1_0.length c1_0, .slice A1_1 l1_1.length c1_1, .int .u64 a1_2, .slice A1_3 l1_3.length c1_3] 29 (0, 0)) (bT_ BK632.out) hb)
        have n2_ := Aside0.mk (below_step beT_ hb)
        clear BK631
        clear BK632
        clear HB
        have BK631 := n0_
        have BK632 := n1_
        have HB := n2_
        clear n0_ n1_ n2_
        (try clear hb)
        (try clear hb2)
        (try clear hk)
        (try clear hi)
        refine hK.out _ _ ⟨(blk_cell BK631.out 0).trans rfl, (blk_cell BK631.out 1).trans rfl, (blk_cell BK631.out 2).trans rfl, (blk_cell BK631.out 3).trans rfl, (blk_cell BK632.out 0).trans rfl, (blk_cell BK632.out 1).trans rfl, (blk_cell BK632.out 2).trans rfl, (blk_cell BK632.out 3).trans rfl⟩ (fun hHeld => ?_)
        clear hK K
        refine nS_ ?_
        refine one_ (i := 3) (N := some 21) (mb_ 20 15) rfl rfl (one_of HT_.out (by kernel_rfl)) (by decide) (fun K hK => ?_)
        refine goes_ Try.func9 (by kernel_rfl) rfl #[.agg #[.slice A0_0 l0_0.length c0_0, .slice A0_1 l0_1.length c0_1, .int .u64 a0_2, .slice A0_3 l0_3.length c0_3]] (by rfl) rfl rfl (by (try simp only [List.map_toArray, List.map_cons, List.map_nil]); first | done | rfl | (simp only [List.length_drop, List.length_take]; rfl)) ?_
        with_reducible refine (ferryref04_Fit.calls kj4 _ _ l0_0 _ _ l0_1 a0_2 _ _ l0_3 t637 _ ?side1 ?side2 ?side3 ?side4 ?side5 ?side6 A24.out).mono ?_
        (case side1 => repeat (first | exact (Kd.C_below HR0_0.out HB.out) | (with_reducible refine Kd.C_alloc ?_ _) | (with_reducible refine Kd.C_drewN ?_ _) | (with_reducible refine Kd.C_drew ?_)))
        (case side2 => exact HC0_0.out)
        (case side3 => repeat (first | exact (Kd.C_below HR0_1.out HB.out) | (with_reducible refine Kd.C_alloc ?_ _) | (with_reducible refine Kd.C_drewN ?_ _) | (with_reducible refine Kd.C_drew ?_)))
        (case side4 => exact HC0_1.out)
        (case side5 => repeat (first | exact (Kd.C_below HR0_3.out HB.out) | (with_reducible refine Kd.C_alloc ?_ _) | (with_reducible refine Kd.C_drewN ?_ _) | (with_reducible refine Kd.C_drew ?_)))
        (case side6 => exact HC0_3.out)
        rintro e w40 ⟨rfl, hb⟩
        refine ⟨_, rfl, ?_⟩
        have n0_ := Aside0.mk (blk_below (g := gb631) (o := .cells #[.slice A0_0 l0_0.length c0_0, .slice A0_1 l0_1.length c0_1, .int .u64 a0_2, .slice A0_3 l0_3.length c0_3] 29 (0, 0)) (bT_ BK631.out) hb)
        have n1_ := Aside0.mk (blk_below (g := gb632) (o := .cells #[.slice A1_0 l1_0.length c1_0, .slice A1_1 l1_1.length c1_1, .int .u64 a1_2, .slice A1_3 l1_3.length c1_3] 29 (0, 0)) (bT_ BK632.out) hb)
        have n2_ := Aside0.mk (below_step beT_ hb)
        clear BK631
        clear BK632
        clear HB
        have BK631 := n0_
        have BK632 := n1_
        have HB := n2_
        clear n0_ n1_ n2_
        (try clear hb)
        (try clear hb2)
        (try clear hk)
        (try clear hi)
        refine hK.out _ _ ⟨(blk_cell BK631.out 0).trans rfl, (blk_cell BK631.out 1).trans rfl, (blk_cell BK631.out 2).trans rfl, (blk_cell BK631.out 3).trans rfl, (blk_cell BK632.out 0).trans rfl, (blk_cell BK632.out 1).trans rfl, (blk_cell BK632.out 2).trans rfl, (blk_cell BK632.out 3).trans rfl⟩ (fun hHeld => ?_)
        clear hK K
        refine nS_ ?_
        refine pS_ 4 22 (mb_ 20 31) ?_
        refine pS_ 5 23 (mb_ 20 63) ?_
        refine t8S_ 6 24 (mb_ 20 127) ?_
        refine t8S_ 7 25 (mb_ 20 255) ?_
        refine t8S_ 9 27 (mb_ 20 767) ?_
        refine t8S_ 10 28 (mb_ 20 1791) ?_
        refine one_ (i := 8) (N := some 26) (mb_ 20 2047) rfl rfl (one_of HT_.out (by kernel_rfl)) (by decide) (fun K hK => ?_)
        refine goes_ Try.func24 (by kernel_rfl) rfl #[.agg #[.slice A0_0 l0_0.length c0_0, .slice A0_1 l0_1.length c0_1, .int .u64 a0_2, .slice A0_3 l0_3.length c0_3], .agg #[.slice A1_0 l1_0.length c1_0, .slice A1_1 l1_1.length c1_1, .int .u64 a1_2, .slice A1_3 l1_3.length c1_3]] (by rfl) rfl rfl (by (try simp only [List.map_toArray, List.map_cons, List.map_nil]); first | done | rfl | (simp only [List.length_drop, List.length_take]; rfl)) ?_
        with_reducible refine (guest_Same.calls kj4 _ _ l0_0 _ _ l0_1 a0_2 _ _ l0_3 _ _ l1_0 _ _ l1_1 a1_2 _ _ l1_3 t638 _ ?side1 ?side2 ?side3 ?side4 ?side5 ?side6 ?side7 ?side8 ?side9 ?side10 ?side11 ?side12 A29.out).mono ?_
        (case side1 => repeat (first | exact (Kd.C_below HR0_0.out HB.out) | (with_reducible refine Kd.C_alloc ?_ _) | (with_reducible refine Kd.C_drewN ?_ _) | (with_reducible refine Kd.C_drew ?_)))
        (case side2 => exact HC0_0.out)
        (case side3 => repeat (first | exact (Kd.C_below HR0_1.out HB.out) | (with_reducible refine Kd.C_alloc ?_ _) | (with_reducible refine Kd.C_drewN ?_ _) | (with_reducible refine Kd.C_drew ?_)))
        (case side4 => exact HC0_1.out)
        (case side5 => repeat (first | exact (Kd.C_below HR0_3.out HB.out) | (with_reducible refine Kd.C_alloc ?_ _) | (with_reducible refine Kd.C_drewN ?_ _) | (with_reducible refine Kd.C_drew ?_)))
        (case side6 => exact HC0_3.out)
        (case side7 => repeat (first | exact (Kd.C_below HR1_0.out HB.out) | (with_reducible refine Kd.C_alloc ?_ _) | (with_reducible refine Kd.C_drewN ?_ _) | (with_reducible refine Kd.C_drew ?_)))
        (case side8 => exact HC1_0.out)
        (case side9 => repeat (first | exact (Kd.C_below HR1_1.out HB.out) | (with_reducible refine Kd.C_alloc ?_ _) | (with_reducible refine Kd.C_drewN ?_ _) | (with_reducible refine Kd.C_drew ?_)))
        (case side10 => exact HC1_1.out)
        (case side11 => repeat (first | exact (Kd.C_below HR1_3.out HB.out) | (with_reducible refine Kd.C_alloc ?_ _) | (with_reducible refine Kd.C_drewN ?_ _) | (with_reducible refine Kd.C_drew ?_)))
        (case side12 => exact HC1_3.out)
        rintro e w41 ⟨rfl, hb⟩
        refine ⟨_, rfl, ?_⟩
        have n0_ := Aside0.mk (blk_below (g := gb631) (o := .cells #[.slice A0_0 l0_0.length c0_0, .slice A0_1 l0_1.length c0_1, .int .u64 a0_2, .slice A0_3 l0_3.length c0_3] 29 (0, 0)) (bT_ BK631.out) hb)
        have n1_ := Aside0.mk (blk_below (g := gb632) (o := .cells #[.slice A1_0 l1_0.length c1_0, .slice A1_1 l1_1.length c1_1, .int .u64 a1_2, .slice A1_3 l1_3.length c1_3] 29 (0, 0)) (bT_ BK632.out) hb)
        have n2_ := Aside0.mk (below_step beT_ hb)
        clear BK631
        clear BK632
        clear HB
        have BK631 := n0_
        have BK632 := n1_
        have HB := n2_
        clear n0_ n1_ n2_
        (try clear hb)
        (try clear hb2)
        (try clear hk)
        (try clear hi)
        refine hK.out _ _ ⟨(blk_cell BK631.out 0).trans rfl, (blk_cell BK631.out 1).trans rfl, (blk_cell BK631.out 2).trans rfl, (blk_cell BK631.out 3).trans rfl, (blk_cell BK632.out 0).trans rfl, (blk_cell BK632.out 1).trans rfl, (blk_cell BK632.out 2).trans rfl, (blk_cell BK632.out 3).trans rfl⟩ (fun hHeld => ?_)
        clear hK K
        refine nS_ ?_
        refine one_ (i := 11) (N := some 29) (mb_ 20 4095) rfl rfl (one_of HT_.out (by kernel_rfl)) (by decide) (fun K hK => ?_)
        refine goes_ Try.func13 (by kernel_rfl) rfl #[.agg #[.slice A0_0 l0_0.length c0_0, .slice A0_1 l0_1.length c0_1, .int .u64 a0_2, .slice A0_3 l0_3.length c0_3], .agg #[.slice A1_0 l1_0.length c1_0, .slice A1_1 l1_1.length c1_1, .int .u64 a1_2, .slice A1_3 l1_3.length c1_3]] (by rfl) rfl rfl (by (try simp only [List.map_toArray, List.map_cons, List.map_nil]); first | done | rfl | (simp only [List.length_drop, List.length_take]; rfl)) ?_
        with_reducible refine (ferryref04_Same.calls kj4 _ _ l0_0 _ _ l0_1 a0_2 _ _ l0_3 _ _ l1_0 _ _ l1_1 a1_2 _ _ l1_3 t639 _ ?side1 ?side2 ?side3 ?side4 ?side5 ?side6 ?side7 ?side8 ?side9 ?side10 ?side11 ?side12 A30.out).mono ?_
        (case side1 => repeat (first | exact (Kd.C_below HR0_0.out HB.out) | (with_reducible refine Kd.C_alloc ?_ _) | (with_reducible refine Kd.C_drewN ?_ _) | (with_reducible refine Kd.C_drew ?_)))
        (case side2 => exact HC0_0.out)
        (case side3 => repeat (first | exact (Kd.C_below HR0_1.out HB.out) | (with_reducible refine Kd.C_alloc ?_ _) | (with_reducible refine Kd.C_drewN ?_ _) | (with_reducible refine Kd.C_drew ?_)))
        (case side4 => exact HC0_1.out)
        (case side5 => repeat (first | exact (Kd.C_below HR0_3.out HB.out) | (with_reducible refine Kd.C_alloc ?_ _) | (with_reducible refine Kd.C_drewN ?_ _) | (with_reducible refine Kd.C_drew ?_)))
        (case side6 => exact HC0_3.out)
        (case side7 => repeat (first | exact (Kd.C_below HR1_0.out HB.out) | (with_reducible refine Kd.C_alloc ?_ _) | (with_reducible refine Kd.C_drewN ?_ _) | (with_reducible refine Kd.C_drew ?_)))
        (case side8 => exact HC1_0.out)
        (case side9 => repeat (first | exact (Kd.C_below HR1_1.out HB.out) | (with_reducible refine Kd.C_alloc ?_ _) | (with_reducible refine Kd.C_drewN ?_ _) | (with_reducible refine Kd.C_drew ?_)))
        (case side10 => exact HC1_1.out)
        (case side11 => repeat (first | exact (Kd.C_below HR1_3.out HB.out) | (with_reducible refine Kd.C_alloc ?_ _) | (with_reducible refine Kd.C_drewN ?_ _) | (with_reducible refine Kd.C_drew ?_)))
        (case side12 => exact HC1_3.out)
        rintro e w42 ⟨rfl, hb⟩
        refine ⟨_, rfl, ?_⟩
        have n0_ := Aside0.mk (blk_below (g := gb631) (o := .cells #[.slice A0_0 l0_0.length c0_0, .slice A0_1 l0_1.length c0_1, .int .u64 a0_2, .slice A0_3 l0_3.length c0_3] 29 (0, 0)) (bT_ BK631.out) hb)
        have n1_ := Aside0.mk (blk_below (g := gb632) (o := .cells #[.slice A1_0 l1_0.length c1_0, .slice A1_1 l1_1.length c1_1, .int .u64 a1_2, .slice A1_3 l1_3.length c1_3] 29 (0, 0)) (bT_ BK632.out) hb)
        have n2_ := Aside0.mk (below_step beT_ hb)
        clear BK631
        clear BK632
        clear HB
        have BK631 := n0_
        have BK632 := n1_
        have HB := n2_
        clear n0_ n1_ n2_
        (try clear hb)
        (try clear hb2)
        (try clear hk)
        (try clear hi)
        refine hK.out _ _ ⟨(blk_cell BK631.out 0).trans rfl, (blk_cell BK631.out 1).trans rfl, (blk_cell BK631.out 2).trans rfl, (blk_cell BK631.out 3).trans rfl, (blk_cell BK632.out 0).trans rfl, (blk_cell BK632.out 1).trans rfl, (blk_cell BK632.out 2).trans rfl, (blk_cell BK632.out 3).trans rfl⟩ (fun hHeld => ?_)
        clear hK K
        refine nS_ ?_
        refine pS_ 12 30 (mb_ 20 8191) ?_
        refine pS_ 13 31 (mb_ 20 16383) ?_
        refine pS_ 14 32 (mb_ 20 32767) ?_
        refine t8S_ 15 33 (mb_ 20 65535) ?_
        refine t8S_ 16 34 (mb_ 20 131071) ?_
        refine one_ (i := 17) (N := some 35) (mb_ 20 262143) rfl rfl (one_of HT_.out (by kernel_rfl)) (by decide) (fun K hK => ?_)
        refine goes_ Try.func24 (by kernel_rfl) rfl #[.agg #[.slice A0_0 l0_0.length c0_0, .slice A0_1 l0_1.length c0_1, .int .u64 a0_2, .slice A0_3 l0_3.length c0_3], .agg #[.slice A0_0 l0_0.length c0_0, .slice A0_1 l0_1.length c0_1, .int .u64 a0_2, .slice A0_3 l0_3.length c0_3]] (by rfl) rfl rfl (by (try simp only [List.map_toArray, List.map_cons, List.map_nil]); first | done | rfl | (simp only [List.length_drop, List.length_take]; rfl)) ?_
        with_reducible refine (guest_Same.calls kj4 _ _ l0_0 _ _ l0_1 a0_2 _ _ l0_3 _ _ l0_0 _ _ l0_1 a0_2 _ _ l0_3 t640 _ ?side1 ?side2 ?side3 ?side4 ?side5 ?side6 ?side7 ?side8 ?side9 ?side10 ?side11 ?side12 A37.out).mono ?_
        (case side1 => repeat (first | exact (Kd.C_below HR0_0.out HB.out) | (with_reducible refine Kd.C_alloc ?_ _) | (with_reducible refine Kd.C_drewN ?_ _) | (with_reducible refine Kd.C_drew ?_)))
        (case side2 => exact HC0_0.out)
        (case side3 => repeat (first | exact (Kd.C_below HR0_1.out HB.out) | (with_reducible refine Kd.C_alloc ?_ _) | (with_reducible refine Kd.C_drewN ?_ _) | (with_reducible refine Kd.C_drew ?_)))
        (case side4 => exact HC0_1.out)
        (case side5 => repeat (first | exact (Kd.C_below HR0_3.out HB.out) | (with_reducible refine Kd.C_alloc ?_ _) | (with_reducible refine Kd.C_drewN ?_ _) | (with_reducible refine Kd.C_drew ?_)))
        (case side6 => exact HC0_3.out)
        (case side7 => repeat (first | exact (Kd.C_below HR0_0.out HB.out) | (with_reducible refine Kd.C_alloc ?_ _) | (with_reducible refine Kd.C_drewN ?_ _) | (with_reducible refine Kd.C_drew ?_)))
        (case side8 => exact HC0_0.out)
        (case side9 => repeat (first | exact (Kd.C_below HR0_1.out HB.out) | (with_reducible refine Kd.C_alloc ?_ _) | (with_reducible refine Kd.C_drewN ?_ _) | (with_reducible refine Kd.C_drew ?_)))
        (case side10 => exact HC0_1.out)
        (case side11 => repeat (first | exact (Kd.C_below HR0_3.out HB.out) | (with_reducible refine Kd.C_alloc ?_ _) | (with_reducible refine Kd.C_drewN ?_ _) | (with_reducible refine Kd.C_drew ?_)))
        (case side12 => exact HC0_3.out)
        rintro e w43 ⟨rfl, hb⟩
        refine ⟨_, rfl, ?_⟩
        have n0_ := Aside0.mk (blk_below (g := gb631) (o := .cells #[.slice A0_0 l0_0.length c0_0, .slice A0_1 l0_1.length c0_1, .int .u64 a0_2, .slice A0_3 l0_3.length c0_3] 29 (0, 0)) (bT_ BK631.out) hb)
        have n1_ := Aside0.mk (blk_below (g := gb632) (o := .cells #[.slice A1_0 l1_0.length c1_0, .slice A1_1 l1_1.length c1_1, .int .u64 a1_2, .slice A1_3 l1_3.length c1_3] 29 (0, 0)) (bT_ BK632.out) hb)
        have n2_ := Aside0.mk (below_step beT_ hb)
        clear BK631
        clear BK632
        clear HB
        have BK631 := n0_
        have BK632 := n1_
        have HB := n2_
        clear n0_ n1_ n2_
        (try clear hb)
        (try clear hb2)
        (try clear hk)
        (try clear hi)
        refine hK.out _ _ ⟨(blk_cell BK631.out 0).trans rfl, (blk_cell BK631.out 1).trans rfl, (blk_cell BK631.out 2).trans rfl, (blk_cell BK631.out 3).trans rfl, (blk_cell BK632.out 0).trans rfl, (blk_cell BK632.out 1).trans rfl, (blk_cell BK632.out 2).trans rfl, (blk_cell BK632.out 3).trans rfl⟩ (fun hHeld => ?_)
        clear hK K
        refine nS_ ?_
        refine pS_ 18 36 (mb_ 20 524287) ?_
        refine pS_ 19 37 (mb_ 20 1048575) ?_
        refine done_ (done_of HT_.out (by kernel_rfl)) ?_
        try go_wp2
        go_meet
        case rel => exact ⟨_, (!t640), (by first | rfl | (simp; done) | (simp [*]; done)), H', ⟨by have := HJ4.out; first | omega | exact Nat.le_refl _⟩, ⟨by (with_reducible repeat (first | refine blk_drewN ?_ _ | refine blk_drew ?_ | refine blk_alloc ?_ _)); exact BK631.out⟩, ⟨by (with_reducible repeat (first | refine blk_drewN ?_ _ | refine blk_drew ?_ | refine blk_alloc ?_ _)); exact BK632.out⟩, ⟨by repeat (first | (with_reducible first | exact HB.out | apply below_alloc | apply pw_below_drewN | apply below_drew1 | refine below_set ?_ GE631.out | refine below_set ?_ GE632.out) | exact HB.out)⟩⟩
      case rest =>
        clear HC22
        try clear c1
        try clear c2
        try clear p2
        try clear c3
        try clear c9
        try clear c13
        try clear c23
        try clear c24
        try clear c31
        try clear c31b0
        try clear c31b1
        try clear c31b2
        obtain ⟨kq, x37_21, rfl, HA, HJ21, BK631, BK632, HB⟩ := hcut
        cases kq with
        | zero => exact absurd HA.out (by simp [ferrylaw04_GuestTells.j1])
        | succ kj21 =>
          have H := HA.out
          clear HA
          simp only [ferrylaw04_GuestTells.j1] at H
          by_cases c44 : x37_21 = true
          · subst c44
            have H1 : (none) = some r := by rw [if_pos rfl] at H; exact H
            clear H
            have H := H1
            clear H1
            exact absurd H (by simp)
          replace c44 := Bool.eq_false_iff.mpr c44
          subst c44
          have H1 : ((ferryref04_Fit.f kj21 l0_0 l0_1 a0_2 l0_3).bind fun t641 => (if t641 = true then ((guest_Prot.f l0_0 l0_1 a0_2 l0_3 a2).bind fun t642 => ((ferryref04_Prot.f kj21 l0_0 l0_1 a0_2 l0_3 a2).bind fun t643 => (if t642 = t643 then ((guest_Place.f l0_0 l0_1 a0_2 l0_3 a3).bind fun t644 => ((ferryref04_Place.f l0_0 l0_1 a0_2 l0_3 a3).bind fun t645 => (if t644 = t645 then ((ferrylaw04_awake.f kj21).bind fun t646 => (some t646)) else (none)))) else (none)))) else ((ferrylaw04_awake.f kj21).bind fun t647 => (some t647)))) = some r := by rw [if_neg (show ¬ (false = true) by decide)] at H; exact H
          clear H
          have H := H1
          clear H1
          replace H := Option.bind_eq_some_iff.mp H
          obtain ⟨t641, A450, H⟩ := H
          replace H : (if t641 = true then ((guest_Prot.f l0_0 l0_1 a0_2 l0_3 a2).bind fun t642 => ((ferryref04_Prot.f kj21 l0_0 l0_1 a0_2 l0_3 a2).bind fun t643 => (if t642 = t643 then ((guest_Place.f l0_0 l0_1 a0_2 l0_3 a3).bind fun t644 => ((ferryref04_Place.f l0_0 l0_1 a0_2 l0_3 a3).bind fun t645 => (if t644 = t645 then ((ferrylaw04_awake.f kj21).bind fun t646 => (some t646)) else (none)))) else (none)))) else ((ferrylaw04_awake.f kj21).bind fun t647 => (some t647))) = some r := H
          have A45 := Aside0.mk A450
          clear A450
          by_cases c46 : t641 = true
          · subst c46
            have H1 : ((guest_Prot.f l0_0 l0_1 a0_2 l0_3 a2).bind fun t642 => ((ferryref04_Prot.f kj21 l0_0 l0_1 a0_2 l0_3 a2).bind fun t643 => (if t642 = t643 then ((guest_Place.f l0_0 l0_1 a0_2 l0_3 a3).bind fun t644 => ((ferryref04_Place.f l0_0 l0_1 a0_2 l0_3 a3).bind fun t645 => (if t644 = t645 then ((ferrylaw04_awake.f kj21).bind fun t646 => (some t646)) else (none)))) else (none)))) = some r := by rw [if_pos rfl] at H; exact H
            clear H
            have H := H1
            clear H1
            replace H := Option.bind_eq_some_iff.mp H
            obtain ⟨t642, A470, H⟩ := H
            replace H : ((ferryref04_Prot.f kj21 l0_0 l0_1 a0_2 l0_3 a2).bind fun t643 => (if t642 = t643 then ((guest_Place.f l0_0 l0_1 a0_2 l0_3 a3).bind fun t644 => ((ferryref04_Place.f l0_0 l0_1 a0_2 l0_3 a3).bind fun t645 => (if t644 = t645 then ((ferrylaw04_awake.f kj21).bind fun t646 => (some t646)) else (none)))) else (none))) = some r := H
            have A47 := Aside0.mk A470
            clear A470
            replace H := Option.bind_eq_some_iff.mp H
            obtain ⟨t643, A480, H⟩ := H
            replace H : (if t642 = t643 then ((guest_Place.f l0_0 l0_1 a0_2 l0_3 a3).bind fun t644 => ((ferryref04_Place.f l0_0 l0_1 a0_2 l0_3 a3).bind fun t645 => (if t644 = t645 then ((ferrylaw04_awake.f kj21).bind fun t646 => (some t646)) else (none)))) else (none)) = some r := H
            have A48 := Aside0.mk A480
            clear A480
            by_cases c49 : t642 = t643
            · rw [if_pos c49] at H
              have c49b0 : (t642 == t643) = true := beq_iff_eq.mpr c49
              have c49b1 : (t642 != t643) = false := bne_eq_false_iff_eq.mpr c49
              clear c49
              replace H := Option.bind_eq_some_iff.mp H
              obtain ⟨t644, A500, H⟩ := H
              replace H : ((ferryref04_Place.f l0_0 l0_1 a0_2 l0_3 a3).bind fun t645 => (if t644 = t645 then ((ferrylaw04_awake.f kj21).bind fun t646 => (some t646)) else (none))) = some r := H
              have A50 := Aside0.mk A500
              clear A500
              replace H := Option.bind_eq_some_iff.mp H
              obtain ⟨t645, A510, H⟩ := H
              replace H : (if t644 = t645 then ((ferrylaw04_awake.f kj21).bind fun t646 => (some t646)) else (none)) = some r := H
              have A51 := Aside0.mk A510
              clear A510
              by_cases c52 : t644 = t645
              · rw [if_pos c52] at H
                have c52b0 : (t644 == t645) = true := beq_iff_eq.mpr c52
                have c52b1 : (t644 != t645) = false := bne_eq_false_iff_eq.mpr c52
                clear c52
                replace H := Option.bind_eq_some_iff.mp H
                obtain ⟨t646, A530, H⟩ := H
                replace H : (some t646) = some r := H
                have A53 := Aside0.mk A530
                clear A530
                obtain rfl := Option.some.inj H
                try go_wp2
                have n0_ := Aside0.mk (blk_drew BK631.out)
                have n1_ := Aside0.mk (blk_drew BK632.out)
                have n2_ := Aside0.mk (below_drew1 HB.out)
                clear BK631
                clear BK632
                clear HB
                have BK631 := n0_
                have BK632 := n1_
                have HB := n2_
                clear n0_ n1_ n2_
                refine start_ (n := 25) (S := fun w' => w'.cell? ⟨gb631, 0, none⟩ = some (.slice A0_0 l0_0.length c0_0) ∧ w'.cell? ⟨gb631, 1, none⟩ = some (.slice A0_1 l0_1.length c0_1) ∧ w'.cell? ⟨gb631, 2, none⟩ = some (.int .u64 a0_2) ∧ w'.cell? ⟨gb631, 3, none⟩ = some (.slice A0_3 l0_3.length c0_3)) (ds := []) #[false, false, false, false, false, false, false, false, false, false, false, false, false, false, false, false, false, false, false, false, false, false, false, false, false] (by kernel_rfl) rfl rfl ⟨(blk_cell BK631.out 0).trans rfl, (blk_cell BK631.out 1).trans rfl, (blk_cell BK631.out 2).trans rfl, (blk_cell BK631.out 3).trans rfl⟩ (fun hHeld => ?_); refine with_tabW ferrylaw04_GuestTells.tab5 ferrylaw04_GuestTells.bits5 (fun HT_ HW_ => ?_)
                generalize wc.drew = w54 at BK631 BK632 HB hHeld ⊢
                refine t4S_ 0 38 (mb_ 25 1) ?_
                refine one_ (i := 1) (N := some 39) (mb_ 25 3) rfl rfl (one_of HT_.out (by kernel_rfl)) (by decide) (fun K hK => ?_)
                refine goes_ Try.func9 (by kernel_rfl) rfl #[.agg #[.slice A0_0 l0_0.length c0_0, .slice A0_1 l0_1.length c0_1, .int .u64 a0_2, .slice A0_3 l0_3.length c0_3]] (by rfl) rfl rfl (by (try simp only [List.map_toArray, List.map_cons, List.map_nil]); first | done | rfl | (simp only [List.length_drop, List.length_take]; rfl)) ?_
                with_reducible refine (ferryref04_Fit.calls kj21 _ _ l0_0 _ _ l0_1 a0_2 _ _ l0_3 true _ ?side1 ?side2 ?side3 ?side4 ?side5 ?side6 A45.out).mono ?_
                (case side1 => repeat (first | exact (Kd.C_below HR0_0.out HB.out) | (with_reducible refine Kd.C_alloc ?_ _) | (with_reducible refine Kd.C_drewN ?_ _) | (with_reducible refine Kd.C_drew ?_)))
                (case side2 => exact HC0_0.out)
                (case side3 => repeat (first | exact (Kd.C_below HR0_1.out HB.out) | (with_reducible refine Kd.C_alloc ?_ _) | (with_reducible refine Kd.C_drewN ?_ _) | (with_reducible refine Kd.C_drew ?_)))
                (case side4 => exact HC0_1.out)
                (case side5 => repeat (first | exact (Kd.C_below HR0_3.out HB.out) | (with_reducible refine Kd.C_alloc ?_ _) | (with_reducible refine Kd.C_drewN ?_ _) | (with_reducible refine Kd.C_drew ?_)))
                (case side6 => exact HC0_3.out)
                rintro e w55 ⟨rfl, hb⟩
                refine ⟨_, rfl, ?_⟩
                have n0_ := Aside0.mk (blk_below (g := gb631) (o := .cells #[.slice A0_0 l0_0.length c0_0, .slice A0_1 l0_1.length c0_1, .int .u64 a0_2, .slice A0_3 l0_3.length c0_3] 29 (0, 0)) (bT_ BK631.out) hb)
                have n1_ := Aside0.mk (blk_below (g := gb632) (o := .cells #[.slice A1_0 l1_0.length c1_0, .slice A1_1 l1_1.length c1_1, .int .u64 a1_2, .slice A1_3 l1_3.length c1_3] 29 (0, 0)) (bT_ BK632.out) hb)
                have n2_ := Aside0.mk (below_step beT_ hb)
                clear BK631
                clear BK632
                clear HB
                have BK631 := n0_
                have BK632 := n1_
                have HB := n2_
                clear n0_ n1_ n2_
                (try clear hb)
                (try clear hb2)
                (try clear hk)
                (try clear hi)
                refine hK.out _ _ ⟨(blk_cell BK631.out 0).trans rfl, (blk_cell BK631.out 1).trans rfl, (blk_cell BK631.out 2).trans rfl, (blk_cell BK631.out 3).trans rfl⟩ (fun hHeld => ?_)
                clear hK K
                refine nS_ ?_
                refine pS_ 2 40 (mb_ 25 7) ?_
                refine pS_ 3 41 (mb_ 25 15) ?_
                refine pS_ 5 43 (mb_ 25 47) ?_
                refine pS_ 8 46 (mb_ 25 303) ?_
                refine t4S_ 4 42 (mb_ 25 319) ?_
                refine t4S_ 7 45 (mb_ 25 447) ?_
                refine one_ (i := 6) (N := some 44) (mb_ 25 511) rfl rfl (one_of HT_.out (by kernel_rfl)) (by decide) (fun K hK => ?_)
                refine goes_ Try.func25 (by kernel_rfl) rfl #[.agg #[.slice A0_0 l0_0.length c0_0, .slice A0_1 l0_1.length c0_1, .int .u64 a0_2, .slice A0_3 l0_3.length c0_3], .int .u32 a2] (by rfl) rfl rfl (by (try simp only [List.map_toArray, List.map_cons, List.map_nil]); first | done | rfl | (simp only [List.length_drop, List.length_take]; rfl)) ?_
                with_reducible refine (guest_Prot.calls _ _ l0_0 _ _ l0_1 a0_2 _ _ l0_3 a2 t642 _ ?side1 ?side2 ?side3 ?side4 ?side5 ?side6 A47.out).mono ?_
                (case side1 => repeat (first | exact (Kd.C_below HR0_0.out HB.out) | (with_reducible refine Kd.C_alloc ?_ _) | (with_reducible refine Kd.C_drewN ?_ _) | (with_reducible refine Kd.C_drew ?_)))
                (case side2 => exact HC0_0.out)
                (case side3 => repeat (first | exact (Kd.C_below HR0_1.out HB.out) | (with_reducible refine Kd.C_alloc ?_ _) | (with_reducible refine Kd.C_drewN ?_ _) | (with_reducible refine Kd.C_drew ?_)))
                (case side4 => exact HC0_1.out)
                (case side5 => repeat (first | exact (Kd.C_below HR0_3.out HB.out) | (with_reducible refine Kd.C_alloc ?_ _) | (with_reducible refine Kd.C_drewN ?_ _) | (with_reducible refine Kd.C_drew ?_)))
                (case side6 => exact HC0_3.out)
                rintro e w56 ⟨rfl, hb⟩
                refine ⟨_, rfl, ?_⟩
                have n0_ := Aside0.mk (blk_below (g := gb631) (o := .cells #[.slice A0_0 l0_0.length c0_0, .slice A0_1 l0_1.length c0_1, .int .u64 a0_2, .slice A0_3 l0_3.length c0_3] 29 (0, 0)) (bT_ BK631.out) hb)
                have n1_ := Aside0.mk (blk_below (g := gb632) (o := .cells #[.slice A1_0 l1_0.length c1_0, .slice A1_1 l1_1.length c1_1, .int .u64 a1_2, .slice A1_3 l1_3.length c1_3] 29 (0, 0)) (bT_ BK632.out) hb)
                have n2_ := Aside0.mk (below_step beT_ hb)
                clear BK631
                clear BK632
                clear HB
                have BK631 := n0_
                have BK632 := n1_
                have HB := n2_
                clear n0_ n1_ n2_
                (try clear hb)
                (try clear hb2)
                (try clear hk)
                (try clear hi)
                refine hK.out _ _ ⟨(blk_cell BK631.out 0).trans rfl, (blk_cell BK631.out 1).trans rfl, (blk_cell BK631.out 2).trans rfl, (blk_cell BK631.out 3).trans rfl⟩ (fun hHeld => ?_)
                clear hK K
                refine nS_ ?_
                refine one_ (i := 9) (N := some 47) (mb_ 25 1023) rfl rfl (one_of HT_.out (by kernel_rfl)) (by decide) (fun K hK => ?_)
                refine goes_ Try.func14 (by kernel_rfl) rfl #[.agg #[.slice A0_0 l0_0.length c0_0, .slice A0_1 l0_1.length c0_1, .int .u64 a0_2, .slice A0_3 l0_3.length c0_3], .int .u32 a2] (by rfl) rfl rfl (by (try simp only [List.map_toArray, List.map_cons, List.map_nil]); first | done | rfl | (simp only [List.length_drop, List.length_take]; rfl)) ?_
                with_reducible refine (ferryref04_Prot.calls kj21 _ _ l0_0 _ _ l0_1 a0_2 _ _ l0_3 a2 t643 _ ?side1 ?side2 ?side3 ?side4 ?side5 ?side6 A48.out).mono ?_
                (case side1 => repeat (first | exact (Kd.C_below HR0_0.out HB.out) | (with_reducible refine Kd.C_alloc ?_ _) | (with_reducible refine Kd.C_drewN ?_ _) | (with_reducible refine Kd.C_drew ?_)))
                (case side2 => exact HC0_0.out)
                (case side3 => repeat (first | exact (Kd.C_below HR0_1.out HB.out) | (with_reducible refine Kd.C_alloc ?_ _) | (with_reducible refine Kd.C_drewN ?_ _) | (with_reducible refine Kd.C_drew ?_)))
                (case side4 => exact HC0_1.out)
                (case side5 => repeat (first | exact (Kd.C_below HR0_3.out HB.out) | (with_reducible refine Kd.C_alloc ?_ _) | (with_reducible refine Kd.C_drewN ?_ _) | (with_reducible refine Kd.C_drew ?_)))
                (case side6 => exact HC0_3.out)
                rintro e w57 ⟨rfl, hb⟩
                refine ⟨_, rfl, ?_⟩
                have n0_ := Aside0.mk (blk_below (g := gb631) (o := .cells #[.slice A0_0 l0_0.length c0_0, .slice A0_1 l0_1.length c0_1, .int .u64 a0_2, .slice A0_3 l0_3.length c0_3] 29 (0, 0)) (bT_ BK631.out) hb)
                have n1_ := Aside0.mk (blk_below (g := gb632) (o := .cells #[.slice A1_0 l1_0.length c1_0, .slice A1_1 l1_1.length c1_1, .int .u64 a1_2, .slice A1_3 l1_3.length c1_3] 29 (0, 0)) (bT_ BK632.out) hb)
                have n2_ := Aside0.mk (below_step beT_ hb)
                clear BK631
                clear BK632
                clear HB
                have BK631 := n0_
                have BK632 := n1_
                have HB := n2_
                clear n0_ n1_ n2_
                (try clear hb)
                (try clear hb2)
                (try clear hk)
                (try clear hi)
                refine hK.out _ _ ⟨(blk_cell BK631.out 0).trans rfl, (blk_cell BK631.out 1).trans rfl, (blk_cell BK631.out 2).trans rfl, (blk_cell BK631.out 3).trans rfl⟩ (fun hHeld => ?_)
                clear hK K
                refine nS_ ?_
                refine pS_ 10 48 (mb_ 25 2047) ?_
                refine pS_ 11 49 (mb_ 25 4095) ?_
                refine pS_ 13 51 (mb_ 25 12287) ?_
                refine pS_ 16 54 (mb_ 25 77823) ?_
                refine t4S_ 12 50 (mb_ 25 81919) ?_
                refine t4S_ 15 53 (mb_ 25 114687) ?_
                refine one_ (i := 14) (N := some 52) (mb_ 25 131071) rfl rfl (one_of HT_.out (by kernel_rfl)) (by decide) (fun K hK => ?_)
                refine goes_ Try.func26 (by kernel_rfl) rfl #[.agg #[.slice A0_0 l0_0.length c0_0, .slice A0_1 l0_1.length c0_1, .int .u64 a0_2, .slice A0_3 l0_3.length c0_3], .int .u32 a3] (by rfl) rfl rfl (by (try simp only [List.map_toArray, List.map_cons, List.map_nil]); first | done | rfl | (simp only [List.length_drop, List.length_take]; rfl)) ?_
                with_reducible refine (guest_Place.calls _ _ l0_0 _ _ l0_1 a0_2 _ _ l0_3 a3 t644 _ ?side1 ?side2 ?side3 ?side4 ?side5 ?side6 A50.out).mono ?_
                (case side1 => repeat (first | exact (Kd.C_below HR0_0.out HB.out) | (with_reducible refine Kd.C_alloc ?_ _) | (with_reducible refine Kd.C_drewN ?_ _) | (with_reducible refine Kd.C_drew ?_)))
                (case side2 => exact HC0_0.out)
                (case side3 => repeat (first | exact (Kd.C_below HR0_1.out HB.out) | (with_reducible refine Kd.C_alloc ?_ _) | (with_reducible refine Kd.C_drewN ?_ _) | (with_reducible refine Kd.C_drew ?_)))
                (case side4 => exact HC0_1.out)
                (case side5 => repeat (first | exact (Kd.C_below HR0_3.out HB.out) | (with_reducible refine Kd.C_alloc ?_ _) | (with_reducible refine Kd.C_drewN ?_ _) | (with_reducible refine Kd.C_drew ?_)))
                (case side6 => exact HC0_3.out)
                rintro e w58 ⟨rfl, hb⟩
                refine ⟨_, rfl, ?_⟩
                have n0_ := Aside0.mk (blk_below (g := gb631) (o := .cells #[.slice A0_0 l0_0.length c0_0, .slice A0_1 l0_1.length c0_1, .int .u64 a0_2, .slice A0_3 l0_3.length c0_3] 29 (0, 0)) (bT_ BK631.out) hb)
                have n1_ := Aside0.mk (blk_below (g := gb632) (o := .cells #[.slice A1_0 l1_0.length c1_0, .slice A1_1 l1_1.length c1_1, .int .u64 a1_2, .slice A1_3 l1_3.length c1_3] 29 (0, 0)) (bT_ BK632.out) hb)
                have n2_ := Aside0.mk (below_step beT_ hb)
                clear BK631
                clear BK632
                clear HB
                have BK631 := n0_
                have BK632 := n1_
                have HB := n2_
                clear n0_ n1_ n2_
                (try clear hb)
                (try clear hb2)
                (try clear hk)
                (try clear hi)
                refine hK.out _ _ ⟨(blk_cell BK631.out 0).trans rfl, (blk_cell BK631.out 1).trans rfl, (blk_cell BK631.out 2).trans rfl, (blk_cell BK631.out 3).trans rfl⟩ (fun hHeld => ?_)
                clear hK K
                refine nS_ ?_
                refine one_ (i := 17) (N := some 55) (mb_ 25 262143) rfl rfl (one_of HT_.out (by kernel_rfl)) (by decide) (fun K hK => ?_)
                refine goes_ Try.func15 (by kernel_rfl) rfl #[.agg #[.slice A0_0 l0_0.length c0_0, .slice A0_1 l0_1.length c0_1, .int .u64 a0_2, .slice A0_3 l0_3.length c0_3], .int .u32 a3] (by rfl) rfl rfl (by (try simp only [List.map_toArray, List.map_cons, List.map_nil]); first | done | rfl | (simp only [List.length_drop, List.length_take]; rfl)) ?_
                with_reducible refine (ferryref04_Place.calls _ _ l0_0 _ _ l0_1 a0_2 _ _ l0_3 a3 t645 _ ?side1 ?side2 ?side3 ?side4 ?side5 ?side6 A51.out).mono ?_
                (case side1 => repeat (first | exact (Kd.C_below HR0_0.out HB.out) | (with_reducible refine Kd.C_alloc ?_ _) | (with_reducible refine Kd.C_drewN ?_ _) | (with_reducible refine Kd.C_drew ?_)))
                (case side2 => exact HC0_0.out)
                (case side3 => repeat (first | exact (Kd.C_below HR0_1.out HB.out) | (with_reducible refine Kd.C_alloc ?_ _) | (with_reducible refine Kd.C_drewN ?_ _) | (with_reducible refine Kd.C_drew ?_)))
                (case side4 => exact HC0_1.out)
                (case side5 => repeat (first | exact (Kd.C_below HR0_3.out HB.out) | (with_reducible refine Kd.C_alloc ?_ _) | (with_reducible refine Kd.C_drewN ?_ _) | (with_reducible refine Kd.C_drew ?_)))
                (case side6 => exact HC0_3.out)
                rintro e w59 ⟨rfl, hb⟩
                refine ⟨_, rfl, ?_⟩
                have n0_ := Aside0.mk (blk_below (g := gb631) (o := .cells #[.slice A0_0 l0_0.length c0_0, .slice A0_1 l0_1.length c0_1, .int .u64 a0_2, .slice A0_3 l0_3.length c0_3] 29 (0, 0)) (bT_ BK631.out) hb)
                have n1_ := Aside0.mk (blk_below (g := gb632) (o := .cells #[.slice A1_0 l1_0.length c1_0, .slice A1_1 l1_1.length c1_1, .int .u64 a1_2, .slice A1_3 l1_3.length c1_3] 29 (0, 0)) (bT_ BK632.out) hb)
                have n2_ := Aside0.mk (below_step beT_ hb)
                clear BK631
                clear BK632
                clear HB
                have BK631 := n0_
                have BK632 := n1_
                have HB := n2_
                clear n0_ n1_ n2_
                (try clear hb)
                (try clear hb2)
                (try clear hk)
                (try clear hi)
                refine hK.out _ _ ⟨(blk_cell BK631.out 0).trans rfl, (blk_cell BK631.out 1).trans rfl, (blk_cell BK631.out 2).trans rfl, (blk_cell BK631.out 3).trans rfl⟩ (fun hHeld => ?_)
                clear hK K
                refine nS_ ?_
                refine pS_ 18 56 (mb_ 25 524287) ?_
                refine pS_ 19 57 (mb_ 25 1048575) ?_
                refine pS_ 20 58 (mb_ 25 2097151) ?_
                refine pS_ 21 59 (mb_ 25 4194303) ?_
                refine one_ (i := 22) (N := some 60) (mb_ 25 8388607) rfl rfl (one_of HT_.out (by kernel_rfl)) (by decide) (fun K hK => ?_)
                refine goes_ Try.func10 (by kernel_rfl) rfl #[] (by rfl) rfl rfl (by (try simp only [List.map_toArray, List.map_cons, List.map_nil]); first | done | rfl | (simp only [List.length_drop, List.length_take]; rfl)) ?_
                with_reducible refine (ferrylaw04_awake.calls kj21  t646 _ A53.out).mono ?_
                rintro e w60 ⟨rfl, hb⟩
                refine ⟨_, rfl, ?_⟩
                have n0_ := Aside0.mk (blk_below (g := gb631) (o := .cells #[.slice A0_0 l0_0.length c0_0, .slice A0_1 l0_1.length c0_1, .int .u64 a0_2, .slice A0_3 l0_3.length c0_3] 29 (0, 0)) (bT_ BK631.out) hb)
                have n1_ := Aside0.mk (blk_below (g := gb632) (o := .cells #[.slice A1_0 l1_0.length c1_0, .slice A1_1 l1_1.length c1_1, .int .u64 a1_2, .slice A1_3 l1_3.length c1_3] 29 (0, 0)) (bT_ BK632.out) hb)
                have n2_ := Aside0.mk (below_step beT_ hb)
                clear BK631
                clear BK632
                clear HB
                have BK631 := n0_
                have BK632 := n1_
                have HB := n2_
                clear n0_ n1_ n2_
                (try clear hb)
                (try clear hb2)
                (try clear hk)
                (try clear hi)
                refine hK.out _ _ ⟨(blk_cell BK631.out 0).trans rfl, (blk_cell BK631.out 1).trans rfl, (blk_cell BK631.out 2).trans rfl, (blk_cell BK631.out 3).trans rfl⟩ (fun hHeld => ?_)
                clear hK K
                refine nS_ ?_
                refine pS_ 23 61 (mb_ 25 16777215) ?_
                refine pS_ 24 8 (mb_ 25 33554431) ?_
                refine done_ (done_of HT_.out (by kernel_rfl)) ?_
                try go_wp2
                go_ret
                exact ⟨by first | rfl | (simp [errW_none, errW_some] <;> rfl) | (simp [*, errW_none, errW_some] <;> rfl), by repeat (first | (with_reducible first | exact HB.out | apply below_alloc | apply pw_below_drewN | apply below_drew1 | refine below_set ?_ GE631.out | refine below_set ?_ GE632.out) | exact HB.out)⟩
              rw [if_neg c52] at H
              have c52b0 : (t644 == t645) = false := beq_eq_false_iff_ne.mpr c52
              have c52b1 : (t644 != t645) = true := bne_iff_ne.mpr c52
              exact absurd H (by simp)
            rw [if_neg c49] at H
            have c49b0 : (t642 == t643) = false := beq_eq_false_iff_ne.mpr c49
            have c49b1 : (t642 != t643) = true := bne_iff_ne.mpr c49
            exact absurd H (by simp)
          replace c46 := Bool.eq_false_iff.mpr c46
          subst c46
          have H1 : ((ferrylaw04_awake.f kj21).bind fun t647 => (some t647)) = some r := by rw [if_neg (show ¬ (false = true) by decide)] at H; exact H
          clear H
          have H := H1
          clear H1
          replace H := Option.bind_eq_some_iff.mp H
          obtain ⟨t647, A610, H⟩ := H
          replace H : (some t647) = some r := H
          have A61 := Aside0.mk A610
          clear A610
          obtain rfl := Option.some.inj H
          try go_wp2
          have n0_ := Aside0.mk (blk_drew BK631.out)
          have n1_ := Aside0.mk (blk_drew BK632.out)
          have n2_ := Aside0.mk (below_drew1 HB.out)
          clear BK631
          clear BK632
          clear HB
          have BK631 := n0_
          have BK632 := n1_
          have HB := n2_
          clear n0_ n1_ n2_
          refine start_ (n := 25) (S := fun w' => w'.cell? ⟨gb631, 0, none⟩ = some (.slice A0_0 l0_0.length c0_0) ∧ w'.cell? ⟨gb631, 1, none⟩ = some (.slice A0_1 l0_1.length c0_1) ∧ w'.cell? ⟨gb631, 2, none⟩ = some (.int .u64 a0_2) ∧ w'.cell? ⟨gb631, 3, none⟩ = some (.slice A0_3 l0_3.length c0_3)) (ds := []) #[false, false, false, false, false, false, false, false, false, false, false, false, false, false, false, false, false, false, false, false, false, false, false, false, false] (by kernel_rfl) rfl rfl ⟨(blk_cell BK631.out 0).trans rfl, (blk_cell BK631.out 1).trans rfl, (blk_cell BK631.out 2).trans rfl, (blk_cell BK631.out 3).trans rfl⟩ (fun hHeld => ?_); refine with_tabW ferrylaw04_GuestTells.tab5 ferrylaw04_GuestTells.bits5 (fun HT_ HW_ => ?_)
          generalize wc.drew = w62 at BK631 BK632 HB hHeld ⊢
          refine t4S_ 0 38 (mb_ 25 1) ?_
          refine one_ (i := 1) (N := some 39) (mb_ 25 3) rfl rfl (one_of HT_.out (by kernel_rfl)) (by decide) (fun K hK => ?_)
          refine goes_ Try.func9 (by kernel_rfl) rfl #[.agg #[.slice A0_0 l0_0.length c0_0, .slice A0_1 l0_1.length c0_1, .int .u64 a0_2, .slice A0_3 l0_3.length c0_3]] (by rfl) rfl rfl (by (try simp only [List.map_toArray, List.map_cons, List.map_nil]); first | done | rfl | (simp only [List.length_drop, List.length_take]; rfl)) ?_
          with_reducible refine (ferryref04_Fit.calls kj21 _ _ l0_0 _ _ l0_1 a0_2 _ _ l0_3 false _ ?side1 ?side2 ?side3 ?side4 ?side5 ?side6 A45.out).mono ?_
          (case side1 => repeat (first | exact (Kd.C_below HR0_0.out HB.out) | (with_reducible refine Kd.C_alloc ?_ _) | (with_reducible refine Kd.C_drewN ?_ _) | (with_reducible refine Kd.C_drew ?_)))
          (case side2 => exact HC0_0.out)
          (case side3 => repeat (first | exact (Kd.C_below HR0_1.out HB.out) | (with_reducible refine Kd.C_alloc ?_ _) | (with_reducible refine Kd.C_drewN ?_ _) | (with_reducible refine Kd.C_drew ?_)))
          (case side4 => exact HC0_1.out)
          (case side5 => repeat (first | exact (Kd.C_below HR0_3.out HB.out) | (with_reducible refine Kd.C_alloc ?_ _) | (with_reducible refine Kd.C_drewN ?_ _) | (with_reducible refine Kd.C_drew ?_)))
          (case side6 => exact HC0_3.out)
          rintro e w63 ⟨rfl, hb⟩
          refine ⟨_, rfl, ?_⟩
          have n0_ := Aside0.mk (blk_below (g := gb631) (o := .cells #[.slice A0_0 l0_0.length c0_0, .slice A0_1 l0_1.length c0_1, .int .u64 a0_2, .slice A0_3 l0_3.length c0_3] 29 (0, 0)) (bT_ BK631.out) hb)
          have n1_ := Aside0.mk (blk_below (g := gb632) (o := .cells #[.slice A1_0 l1_0.length c1_0, .slice A1_1 l1_1.length c1_1, .int .u64 a1_2, .slice A1_3 l1_3.length c1_3] 29 (0, 0)) (bT_ BK632.out) hb)
          have n2_ := Aside0.mk (below_step beT_ hb)
          clear BK631
          clear BK632
          clear HB
          have BK631 := n0_
          have BK632 := n1_
          have HB := n2_
          clear n0_ n1_ n2_
          (try clear hb)
          (try clear hb2)
          (try clear hk)
          (try clear hi)
          refine hK.out _ _ ⟨(blk_cell BK631.out 0).trans rfl, (blk_cell BK631.out 1).trans rfl, (blk_cell BK631.out 2).trans rfl, (blk_cell BK631.out 3).trans rfl⟩ (fun hHeld => ?_)
          clear hK K
          refine nS_ ?_
          refine pS_ 2 40 (mb_ 25 7) ?_
          refine pS_ 3 41 (mb_ 25 15) ?_
          refine uS_ 4 42 (mb_ 25 31) ?_
          refine uS_ 5 43 (mb_ 25 63) ?_
          refine uS_ 6 44 (mb_ 25 127) ?_
          refine uS_ 7 45 (mb_ 25 255) ?_
          refine uS_ 8 46 (mb_ 25 511) ?_
          refine uS_ 9 47 (mb_ 25 1023) ?_
          refine uS_ 10 48 (mb_ 25 2047) ?_
          refine uS_ 11 49 (mb_ 25 4095) ?_
          refine uS_ 12 50 (mb_ 25 8191) ?_
          refine uS_ 13 51 (mb_ 25 16383) ?_
          refine uS_ 14 52 (mb_ 25 32767) ?_
          refine uS_ 15 53 (mb_ 25 65535) ?_
          refine uS_ 16 54 (mb_ 25 131071) ?_
          refine uS_ 17 55 (mb_ 25 262143) ?_
          refine uS_ 18 56 (mb_ 25 524287) ?_
          refine uS_ 19 57 (mb_ 25 1048575) ?_
          refine pS_ 20 58 (mb_ 25 2097151) ?_
          refine pS_ 21 59 (mb_ 25 4194303) ?_
          refine one_ (i := 22) (N := some 60) (mb_ 25 8388607) rfl rfl (one_of HT_.out (by kernel_rfl)) (by decide) (fun K hK => ?_)
          refine goes_ Try.func10 (by kernel_rfl) rfl #[] (by rfl) rfl rfl (by (try simp only [List.map_toArray, List.map_cons, List.map_nil]); first | done | rfl | (simp only [List.length_drop, List.length_take]; rfl)) ?_
          with_reducible refine (ferrylaw04_awake.calls kj21  t647 _ A61.out).mono ?_
          rintro e w64 ⟨rfl, hb⟩
          refine ⟨_, rfl, ?_⟩
          have n0_ := Aside0.mk (blk_below (g := gb631) (o := .cells #[.slice A0_0 l0_0.length c0_0, .slice A0_1 l0_1.length c0_1, .int .u64 a0_2, .slice A0_3 l0_3.length c0_3] 29 (0, 0)) (bT_ BK631.out) hb)
          have n1_ := Aside0.mk (blk_below (g := gb632) (o := .cells #[.slice A1_0 l1_0.length c1_0, .slice A1_1 l1_1.length c1_1, .int .u64 a1_2, .slice A1_3 l1_3.length c1_3] 29 (0, 0)) (bT_ BK632.out) hb)
          have n2_ := Aside0.mk (below_step beT_ hb)
          clear BK631
          clear BK632
          clear HB
          have BK631 := n0_
          have BK632 := n1_
          have HB := n2_
          clear n0_ n1_ n2_
          (try clear hb)
          (try clear hb2)
          (try clear hk)
          (try clear hi)
          refine hK.out _ _ ⟨(blk_cell BK631.out 0).trans rfl, (blk_cell BK631.out 1).trans rfl, (blk_cell BK631.out 2).trans rfl, (blk_cell BK631.out 3).trans rfl⟩ (fun hHeld => ?_)
          clear hK K
          refine nS_ ?_
          refine pS_ 23 61 (mb_ 25 16777215) ?_
          refine pS_ 24 8 (mb_ 25 33554431) ?_
          refine done_ (done_of HT_.out (by kernel_rfl)) ?_
          try go_wp2
          go_ret
          exact ⟨by first | rfl | (simp [errW_none, errW_some] <;> rfl) | (simp [*, errW_none, errW_some] <;> rfl), by repeat (first | (with_reducible first | exact HB.out | apply below_alloc | apply pw_below_drewN | apply below_drew1 | refine below_set ?_ GE631.out | refine below_set ?_ GE632.out) | exact HB.out)⟩

end Go.Proofs.Ytjhfglpgpicmiaa.F
end
