import Derived.Below
import Derived.Deep.Draws
import Derived.Deep.AppendLies
import Derived.Maps.AppendAt
import Derived.OwnWalk
import Derived.Laws.BytesArg
import Derived.Laws.MakeOwn
import Derived.Laws.OwnMore
import Derived.Deep.OwnRows
import Derived.Tactics
import Derived.Lib.ConvBytes
import Derived.Laws.Slices
import Derived.WalkKit
import Derived.KernelRfl
import Derived.RowKit3
import Derived.Deep.LoopGhost
import Derived.Deep.QuietTactic
import Derived.BigQuiet
import Derived.WideLaws
import Derived.Deep.DeepCutAuto
import Derived.Deep.CutBlock
import Derived.Deep.RegionHeld3
import Derived.Laws.Rows
import Derived.Lib.AppendStr
import Derived.ArgAppend
import Derived.Laws.IdiomCopy
import Derived.RowKit
import Derived.OrdersHeld
import Derived.Laws.BitsLemmas
import Derived.Laws.StructEq
import Derived.OwnWalkIn
import Derived.WalkSmall
import Derived.Laws.ResultCell
import Derived.ProofKit
import Derived.Lib.Hide
import Derived.Shelf.RegionOpen
import Derived.Shelf.Abstract
import Derived.Lib.SliceRun
import Derived.Shelf.Spec.SlicesInsertGrow
import Derived.OpenShut
import Derived.Deep.Slices
import Derived.SizedLaws
import Derived.RangeFuncNested
import Derived.RangeFuncBound
import Derived.RangeFuncCalls
import Derived.RangeFuncLeaves
import Derived.RangeFuncWrites
import Derived.TacticsInMore
import Derived.LoopNIn
import Derived.LoopIn
import Derived.Stop.RegionWithIn
import Derived.Test.YtjhfglpgpicmiaaZF0
import Derived.Test.YtjhfglpgpicmiaaYA0
import Derived.Test.YtjhfglpgpicmiaaYA4HHost3
import Derived.Test.YtjhfglpgpicmiaaYA6HHost11
import Derived.Test.YtjhfglpgpicmiaaYA7Twice
import Derived.Test.YtjhfglpgpicmiaaYA8FFerryref04Fit
import Derived.Test.YtjhfglpgpicmiaaYA11
import Derived.Test.YtjhfglpgpicmiaaYA13
import Derived.Test.YtjhfglpgpicmiaaYA16HGuest7
import Derived.Test.YtjhfglpgpicmiaaYA17
import Derived.Test.YtjhfglpgpicmiaaYA18FFerrylaw04Awake
import Derived.Test.YtjhfglpgpicmiaaYA19
import Derived.Test.YtjhfglpgpicmiaaYB20FFerryref04Same
import Derived.Test.YtjhfglpgpicmiaaYD22FFerryref04Place
import Derived.Test.YtjhfglpgpicmiaaYG33
section
namespace Go.Proofs.Ytjhfglpgpicmiaa.F
open Go.RowKit Go.Proofs.YtjhfglpgpicmiaaW.PrintWords Go.Proofs.YtjhfglpgpicmiaaW.PrintLast Go.Proofs.YtjhfglpgpicmiaaW.PrintMore
attribute [local go_sem] max2_int min2_int max_two min_two max_three min_three max_four min_four
attribute [local go_sem] u32w
attribute [local go_sem] cell_twice
set_option linter.unusedVariables false
set_option linter.unusedSimpArgs false

mutual
def ferrylaw04_GuestParts.j0 : Nat → Int → Int → Int → Bool → Int → Bool → List (S55) → List (S60) → Int → List (S39) → Option (Bool)
  | 0, _, _, _, _, _, _, _, _, _, _ => none
  | k + 1, x1, x2, x3, x4, x5, x26, x229000, x229001, x229002, x229003 => if x26 = true then ((ferrylaw04_awake.f k).bind fun t231 => (some t231)) else (if x4 = true then ((guest_Unmap.f x229000 x229001 x229002 x229003 x1 x2).bind fun bt233 => (ferrylaw04_GuestParts.j1 k x1 x2 x3 x4 x5 bt233.2.2.2.2 x229000 x229001 x229002 x229003 bt233.1 bt233.2.1 bt233.2.2.1 bt233.2.2.2.1)) else ((guest_Map.f x229000 x229001 x229002 x229003 x1 x2 x3).bind fun bt244 => (ferrylaw04_GuestParts.j1 k x1 x2 x3 x4 x5 bt244.2.2.2.2 x229000 x229001 x229002 x229003 bt244.1 bt244.2.1 bt244.2.2.1 bt244.2.2.2.1)))
def ferrylaw04_GuestParts.j1 : Nat → Int → Int → Int → Bool → Int → Int → List (S55) → List (S60) → Int → List (S39) → List (S55) → List (S60) → Int → List (S39) → Option (Bool)
  | 0, _, _, _, _, _, _, _, _, _, _, _, _, _, _ => none
  | k + 1, x1, x2, x3, x4, x5, x14, x229000, x229001, x229002, x229003, x233000, x233001, x233002, x233003 => if x14 = 0 then (ferrylaw04_GuestParts.l0 k x1 x2 x3 x4 x5 x229003 (x229003.length : Int) 0 x229000 x229001 x229002 x229003 x233000 x233001 x233002 x233003) else ((ferryref04_Same.f k x233000 x233001 x233002 x233003 x229000 x229001 x229002 x229003).bind fun t255 => (if t255 = true then ((ferrylaw04_awake.f k).bind fun t256 => (some t256)) else (none)))
def ferrylaw04_GuestParts.l0 : Nat → Int → Int → Int → Bool → Int → List (S39) → Int → Int → List (S55) → List (S60) → Int → List (S39) → List (S55) → List (S60) → Int → List (S39) → Option (Bool)
  | 0, _, _, _, _, _, _, _, _, _, _, _, _, _, _, _, _ => none
  | k + 1, x1, x2, x3, x4, x5, x53, x54, x55, x229000, x229001, x229002, x229003, x233000, x233001, x233002, x233003 => if x55 < x54 then (if 0 ≤ x55 then (if x55 < (x53.length : Int) then (if ((rd_T39 x53 x55).f0) < x1 then ((ferryref04_Prot.f k x233000 x233001 x233002 x233003 ((rd_T39 x53 x55).f0)).bind fun t259 => (if t259 = ((rd_T39 x53 x55).f1) then (ferrylaw04_GuestParts.l0 k x1 x2 x3 x4 x5 x53 x54 (wrap64 (x55 + 1)) x229000 x229001 x229002 x229003 x233000 x233001 x233002 x233003) else (none))) else (if ((((rd_T39 x53 x55).f0) - x1) % 4294967296) ≥ x2 then ((ferryref04_Prot.f k x233000 x233001 x233002 x233003 ((rd_T39 x53 x55).f0)).bind fun t260 => (if t260 = ((rd_T39 x53 x55).f1) then (ferrylaw04_GuestParts.l0 k x1 x2 x3 x4 x5 x53 x54 (wrap64 (x55 + 1)) x229000 x229001 x229002 x229003 x233000 x233001 x233002 x233003) else (none))) else (ferrylaw04_GuestParts.l0 k x1 x2 x3 x4 x5 x53 x54 (wrap64 (x55 + 1)) x229000 x229001 x229002 x229003 x233000 x233001 x233002 x233003))) else (none)) else (none)) else ((ferryref04_Place.f x229000 x229001 x229002 x229003 x5).bind fun t261 => (if ((Int.tdiv x5 4096) % 4294967296) ≥ x1 then (ferrylaw04_GuestParts.j3 k x3 x4 ((Int.tdiv x5 4096) % 4294967296) t261 (decide (((((Int.tdiv x5 4096) % 4294967296) - x1) % 4294967296) < x2)) x229000 x229001 x229002 x229003 x233000 x233001 x233002 x233003) else (ferrylaw04_GuestParts.j3 k x3 x4 ((Int.tdiv x5 4096) % 4294967296) t261 false x229000 x229001 x229002 x229003 x233000 x233001 x233002 x233003)))
def ferrylaw04_GuestParts.j3 : Nat → Int → Bool → Int → Int → Bool → List (S55) → List (S60) → Int → List (S39) → List (S55) → List (S60) → Int → List (S39) → Option (Bool)
  | 0, _, _, _, _, _, _, _, _, _, _, _, _, _ => none
  | k + 1, x3, x4, x17, x18, x95, x229000, x229001, x229002, x229003, x233000, x233001, x233002, x233003 => if x95 = true then (if x4 = true then ((ferryref04_Prot.f k x233000 x233001 x233002 x233003 x17).bind fun t262 => (if t262 < 0 then ((ferryref03_Peek.f k x233000 x233001 x18).bind fun t263 => (if t263 = 0 then ((ferrylaw04_awake.f k).bind fun t264 => (some t264)) else (none))) else (none))) else ((ferryref04_Prot.f k x233000 x233001 x233002 x233003 x17).bind fun t265 => (if t265 = x3 then ((ferryref03_Peek.f k x233000 x233001 x18).bind fun t266 => (if t266 = 0 then ((ferrylaw04_awake.f k).bind fun t267 => (some t267)) else (none))) else (none)))) else ((ferryref04_Prot.f k x233000 x233001 x233002 x233003 x17).bind fun t268 => ((ferryref04_Prot.f k x229000 x229001 x229002 x229003 x17).bind fun t269 => (if t268 = t269 then ((ferryref03_Peek.f k x233000 x233001 x18).bind fun t270 => ((ferryref03_Peek.f k x229000 x229001 x18).bind fun t271 => (if t270 = t271 then ((ferrylaw04_awake.f k).bind fun t272 => (some t272)) else (none)))) else (none))))
end
def ferrylaw04_GuestParts.f (k : Nat) (l0_0 : List (S55)) (l0_1 : List (S60)) (a0_2 : Int) (l0_3 : List (S39)) (a1 : Int) (a2 : Int) (a3 : Int) (a4 : Bool) (a5 : Int) : Option (Bool) := (ferrylaw04_few.f l0_0 l0_1 a0_2 l0_3).bind fun t229 => (if t229 = true then ((ferryref04_Fit.f k l0_0 l0_1 a0_2 l0_3).bind fun t230 => (ferrylaw04_GuestParts.j0 k a1 a2 a3 a4 a5 (!t230) l0_0 l0_1 a0_2 l0_3)) else (ferrylaw04_GuestParts.j0 k a1 a2 a3 a4 a5 true l0_0 l0_1 a0_2 l0_3))
def ferrylaw04_GuestParts.T13 : Bool × List (List Nat × List Nat) := (true, [([], []), ([0], [0]), ([], []), ([1, 2], [1, 2]), ([3], [3]), ([4], [4]), ([5, 4], [4, 5]), ([4], [4]), ([6, 7, 4], [4, 6, 7]), ([4], [4]), ([8, 9, 4], [4, 8, 9]), ([4, 10], [4, 10]), ([11, 4], [11]), ([12], [12]), ([12], [12]), ([14, 12], [12, 14]), ([13, 15, 12, 12], [12, 13, 15]), ([12], [12]), ([17, 12], [12, 17]), ([16, 18, 12], [12, 16, 18]), ([12, 19], [12, 19])])
def ferrylaw04_GuestParts.B13 : List Nat := [0, 1, 0, 7, 15, 31, 63, 31, 255, 31, 1023, 2047, 4095, 8191, 8191, 24575, 65535, 8191, 139263, 524287, 1048575]
theorem ferrylaw04_GuestParts.tab13 : rtab .any (opsOf Try.f3 13) = ferrylaw04_GuestParts.T13 := by kernel_rfl
theorem ferrylaw04_GuestParts.bits13 : waitsOk ferrylaw04_GuestParts.T13.2 ferrylaw04_GuestParts.B13 = true := by kernel_rfl
def ferrylaw04_GuestParts.T20 : Bool × List (List Nat × List Nat) := (true, [([], []), ([], []), ([0, 1], [0, 1]), ([], []), ([], []), ([3, 4, 2], [3, 4]), ([2, 5], [2, 5]), ([6, 5], [6]), ([7], [7]), ([8, 7], [7, 8]), ([7], [7]), ([9, 10, 7, 7], [7, 9, 10]), ([7], [7]), ([12, 7], [7, 12]), ([7], [7]), ([13, 14, 11, 7], [7, 13, 14]), ([11, 15, 7], [7, 11, 15]), ([7, 16], [7, 16]), ([17, 15], [17]), ([18, 18], [18]), ([18, 19], [18, 19]), ([20, 19, 0, 1, 2, 3, 4, 5, 6, 7, 8, 9, 10, 11, 12, 13, 14, 15, 16, 17, 18, 19, 20], [20])])
def ferrylaw04_GuestParts.B20 : List Nat := [0, 0, 3, 0, 0, 31, 63, 127, 255, 511, 255, 2047, 255, 4351, 255, 32767, 65535, 131071, 262143, 524287, 1048575, 2097151]
theorem ferrylaw04_GuestParts.tab20 : rtab .any (opsOf Try.f3 20) = ferrylaw04_GuestParts.T20 := by kernel_rfl
theorem ferrylaw04_GuestParts.bits20 : waitsOk ferrylaw04_GuestParts.T20.2 ferrylaw04_GuestParts.B20 = true := by kernel_rfl
set_option maxHeartbeats 8000000 in
set_option maxRecDepth 100000 in
theorem ferrylaw04_GuestParts.calls (k : Nat) (A0_0 : Option Addr) (c0_0 : Nat) (l0_0 : List (S55)) (A0_1 : Option Addr) (c0_1 : Nat) (l0_1 : List (S60)) (a0_2 : Int) (A0_3 : Option Addr) (c0_3 : Nat) (l0_3 : List (S39)) (a1 : Int) (a2 : Int) (a3 : Int) (a4 : Bool) (a5 : Int) (r : Bool) (w : World) (hr0_0 : Kd.C k55 w A0_0 l0_0.length l0_0) (hc0_0 : l0_0.length ≤ c0_0) (hr0_1 : Kd.C k60 w A0_1 l0_1.length l0_1) (hc0_1 : l0_1.length ≤ c0_1) (hr0_3 : Kd.C k39 w A0_3 l0_3.length l0_3) (hc0_3 : l0_3.length ≤ c0_3) (h : ferrylaw04_GuestParts.f k l0_0 l0_1 a0_2 l0_3 a1 a2 a3 a4 a5 = some r) :
    Calls Try.prog 3 #[.agg #[.slice A0_0 l0_0.length c0_0, .slice A0_1 l0_1.length c0_1, .int .u64 a0_2, .slice A0_3 l0_3.length c0_3], .int .u32 a1, .int .u32 a2, .int .i64 a3, .bool a4, .int .u32 a5] w fun e w' => e = .returned (.bool r) ∧ Below w.heap.size w w' := by
  have hu29 := Try.underlying29
  have hu39 := Try.underlying39
  have hu25 := Try.underlying25
  have HR0_0 := Aside0.mk hr0_0
  have HC0_0 := Aside0.mk hc0_0
  clear hr0_0 hc0_0
  have HR0_1 := Aside0.mk hr0_1
  have HC0_1 := Aside0.mk hc0_1
  clear hr0_1 hc0_1
  have HR0_3 := Aside0.mk hr0_3
  have HC0_3 := Aside0.mk hc0_3
  clear hr0_3 hc0_3
  have HB := Aside0.mk (Below.refl w.heap.size w)
  have H : ((ferrylaw04_few.f l0_0 l0_1 a0_2 l0_3).bind fun t229 => (if t229 = true then ((ferryref04_Fit.f k l0_0 l0_1 a0_2 l0_3).bind fun t230 => (ferrylaw04_GuestParts.j0 k a1 a2 a3 a4 a5 (!t230) l0_0 l0_1 a0_2 l0_3)) else (ferrylaw04_GuestParts.j0 k a1 a2 a3 a4 a5 true l0_0 l0_1 a0_2 l0_3))) = some r := h
  clear h
  have HC7 := Aside0.mk H
  clear H
  go_enter Try.func3, Try.ntmps3
  go_upto_region 1 with (first | ((with_reducible refine gate_dst (N := 6) rfl ?_); refine box_event ?hg (N := 6) ?hd (cs := #[.slice A0_0 l0_0.length c0_0, .slice A0_1 l0_1.length c0_1, .int .u64 a0_2, .slice A0_3 l0_3.length c0_3]) (t := 29) ?hr ?_; (case hd => rfl); (case hg => rfl); (case hr => first | (go_simp; done) | (go_simp; rfl)); intro gb228 hg w8 hbox hb; have n0_ := Aside0.mk (below_step beT_ hb); have n1_ := Aside0.mk (hbox); have n2_ := Aside0.mk ((by rw [hg]; exact (below_size beT_) : w.heap.size ≤ gb228)); have n3_ := Aside0.mk ((by rw [hg]; exact (below_size beT_) : w.heap.size ≤ gb228)); clear HB; have HB := n0_; have BK228 := n1_; have GW228 := n2_; have GE228 := n3_; clear n0_ n1_ n2_ n3_; clear hb hbox hg))
  (try simp only [Act.put, List.setIfInBounds_toArray, List.set_cons_zero, List.set_cons_succ])
  go_cut [26] (fun v26 wc => ∃ (kq : Nat) (x26_6 : Bool), v26 = .bool x26_6 ∧ Aside0 (ferrylaw04_GuestParts.j0 kq a1 a2 a3 a4 a5 x26_6 l0_0 l0_1 a0_2 l0_3 = some r) ∧ Aside0 (kq ≤ k) ∧ Aside0 (wc.heap[gb228]? = some (.cells #[(.slice A0_0 l0_0.length c0_0), (.slice A0_1 l0_1.length c0_1), .int .u64 a0_2, (.slice A0_3 l0_3.length c0_3)] 29 (0, 0))) ∧ Aside0 (Below w.heap.size w wc))
  case first =>
    have H := HC7.out
    clear HC7
    replace H := Option.bind_eq_some_iff.mp H
    obtain ⟨t229, A90, H⟩ := H
    replace H : (if t229 = true then ((ferryref04_Fit.f k l0_0 l0_1 a0_2 l0_3).bind fun t230 => (ferrylaw04_GuestParts.j0 k a1 a2 a3 a4 a5 (!t230) l0_0 l0_1 a0_2 l0_3)) else (ferrylaw04_GuestParts.j0 k a1 a2 a3 a4 a5 true l0_0 l0_1 a0_2 l0_3)) = some r := H
    have A9 := Aside0.mk A90
    clear A90
    by_cases c10 : t229 = true
    · subst c10
      have H1 : ((ferryref04_Fit.f k l0_0 l0_1 a0_2 l0_3).bind fun t230 => (ferrylaw04_GuestParts.j0 k a1 a2 a3 a4 a5 (!t230) l0_0 l0_1 a0_2 l0_3)) = some r := by rw [if_pos rfl] at H; exact H
      clear H
      have H := H1
      clear H1
      replace H := Option.bind_eq_some_iff.mp H
      obtain ⟨t230, A110, H⟩ := H
      replace H : (ferrylaw04_GuestParts.j0 k a1 a2 a3 a4 a5 (!t230) l0_0 l0_1 a0_2 l0_3) = some r := H
      have A11 := Aside0.mk A110
      clear A110
      have H' := Aside0.mk H
      clear H
      have hcz12_0 : w8.cell? ⟨gb228, 0, none⟩ = some (.slice A0_0 l0_0.length c0_0) := (blk_cell BK228.out 0).trans rfl
      have hcz12_1 : w8.cell? ⟨gb228, 1, none⟩ = some (.slice A0_1 l0_1.length c0_1) := (blk_cell BK228.out 1).trans rfl
      have hcz12_2 : w8.cell? ⟨gb228, 2, none⟩ = some (.int .u64 a0_2) := (blk_cell BK228.out 2).trans rfl
      have hcz12_3 : w8.cell? ⟨gb228, 3, none⟩ = some (.slice A0_3 l0_3.length c0_3) := (blk_cell BK228.out 3).trans rfl
      have hfz12_0 := blk_frozen BK228.out 0
      have hfz12_1 := blk_frozen BK228.out 1
      have hfz12_2 := blk_frozen BK228.out 2
      have hfz12_3 := blk_frozen BK228.out 3
      go_wp2_with (first | ((with_reducible refine gate_callee (f := 8) rfl ?_); refine goesL_ (some 20) rfl rfl Try.func8 (by kernel_rfl) rfl #[.agg #[.slice A0_0 l0_0.length c0_0, .slice A0_1 l0_1.length c0_1, .int .u64 a0_2, .slice A0_3 l0_3.length c0_3]] rfl (by (try simp only [List.map_toArray, List.map_cons, List.map_nil]); first | done | rfl | (simp only [List.length_drop, List.length_take]; rfl)) ?_; (with_reducible refine (ferrylaw04_few.calls _ _ l0_0 _ _ l0_1 a0_2 _ _ l0_3 true _ ?side1 ?side2 ?side3 ?side4 ?side5 ?side6 A9.out).mono ?_); (case side1 => repeat (first | exact (Kd.C_below HR0_0.out HB.out) | (with_reducible refine Kd.C_alloc ?_ _) | (with_reducible refine Kd.C_drewN ?_ _) | (with_reducible refine Kd.C_drew ?_))); (case side2 => exact HC0_0.out); (case side3 => repeat (first | exact (Kd.C_below HR0_1.out HB.out) | (with_reducible refine Kd.C_alloc ?_ _) | (with_reducible refine Kd.C_drewN ?_ _) | (with_reducible refine Kd.C_drew ?_))); (case side4 => exact HC0_1.out); (case side5 => repeat (first | exact (Kd.C_below HR0_3.out HB.out) | (with_reducible refine Kd.C_alloc ?_ _) | (with_reducible refine Kd.C_drewN ?_ _) | (with_reducible refine Kd.C_drew ?_))); (case side6 => exact HC0_3.out); rintro e w13 ⟨rfl, hb⟩; refine ⟨_, rfl, ?_⟩; have n0_ := Aside0.mk (blk_below (g := gb228) (o := .cells #[.slice A0_0 l0_0.length c0_0, .slice A0_1 l0_1.length c0_1, .int .u64 a0_2, .slice A0_3 l0_3.length c0_3] 29 (0, 0)) (bT_ BK228.out) hb); have n1_ := Aside0.mk (below_step beT_ hb); clear BK228; clear HB; have BK228 := n0_; have HB := n1_; clear n0_ n1_; (try clear hb); (try clear hb2); (try clear hk); (try clear hi); have hcz14_0 : w13.cell? ⟨gb228, 0, none⟩ = some (.slice A0_0 l0_0.length c0_0) := (blk_cell BK228.out 0).trans rfl; have hcz14_1 : w13.cell? ⟨gb228, 1, none⟩ = some (.slice A0_1 l0_1.length c0_1) := (blk_cell BK228.out 1).trans rfl; have hcz14_2 : w13.cell? ⟨gb228, 2, none⟩ = some (.int .u64 a0_2) := (blk_cell BK228.out 2).trans rfl; have hcz14_3 : w13.cell? ⟨gb228, 3, none⟩ = some (.slice A0_3 l0_3.length c0_3) := (blk_cell BK228.out 3).trans rfl; have hfz14_0 := blk_frozen BK228.out 0; have hfz14_1 := blk_frozen BK228.out 1; have hfz14_2 := blk_frozen BK228.out 2; have hfz14_3 := blk_frozen BK228.out 3) | (go_at_call 9; (with_reducible refine (ferryref04_Fit.calls k _ _ l0_0 _ _ l0_1 a0_2 _ _ l0_3 t230 _ ?side1 ?side2 ?side3 ?side4 ?side5 ?side6 A11.out).mono ?_); (case side1 => repeat (first | exact (Kd.C_below HR0_0.out HB.out) | (with_reducible refine Kd.C_alloc ?_ _) | (with_reducible refine Kd.C_drewN ?_ _) | (with_reducible refine Kd.C_drew ?_))); (case side2 => exact HC0_0.out); (case side3 => repeat (first | exact (Kd.C_below HR0_1.out HB.out) | (with_reducible refine Kd.C_alloc ?_ _) | (with_reducible refine Kd.C_drewN ?_ _) | (with_reducible refine Kd.C_drew ?_))); (case side4 => exact HC0_1.out); (case side5 => repeat (first | exact (Kd.C_below HR0_3.out HB.out) | (with_reducible refine Kd.C_alloc ?_ _) | (with_reducible refine Kd.C_drewN ?_ _) | (with_reducible refine Kd.C_drew ?_))); (case side6 => exact HC0_3.out); rintro e w15 ⟨rfl, hb⟩; have n0_ := Aside0.mk (blk_below (g := gb228) (o := .cells #[.slice A0_0 l0_0.length c0_0, .slice A0_1 l0_1.length c0_1, .int .u64 a0_2, .slice A0_3 l0_3.length c0_3] 29 (0, 0)) (bT_ BK228.out) hb); have n1_ := Aside0.mk (below_step beT_ hb); clear BK228; clear HB; have BK228 := n0_; have HB := n1_; clear n0_ n1_; (try clear hb); (try clear hb2); (try clear hk); (try clear hi)))
      go_meet
      case rel => exact ⟨_, (!t230), (by first | rfl | (simp; done) | (simp [*]; done)), H', ⟨by first | omega | exact Nat.le_refl _⟩, ⟨by (with_reducible repeat (first | refine blk_drewN ?_ _ | refine blk_drew ?_ | refine blk_alloc ?_ _)); exact BK228.out⟩, ⟨by repeat (first | (with_reducible first | exact HB.out | apply below_alloc | apply pw_below_drewN | apply below_drew1 | refine below_set ?_ GE228.out) | exact HB.out)⟩⟩
    replace c10 := Bool.eq_false_iff.mpr c10
    subst c10
    have H1 : (ferrylaw04_GuestParts.j0 k a1 a2 a3 a4 a5 true l0_0 l0_1 a0_2 l0_3) = some r := by rw [if_neg (show ¬ (false = true) by decide)] at H; exact H
    clear H
    have H := H1
    clear H1
    have H' := Aside0.mk H
    clear H
    have hcz16_0 : w8.cell? ⟨gb228, 0, none⟩ = some (.slice A0_0 l0_0.length c0_0) := (blk_cell BK228.out 0).trans rfl
    have hcz16_1 : w8.cell? ⟨gb228, 1, none⟩ = some (.slice A0_1 l0_1.length c0_1) := (blk_cell BK228.out 1).trans rfl
    have hcz16_2 : w8.cell? ⟨gb228, 2, none⟩ = some (.int .u64 a0_2) := (blk_cell BK228.out 2).trans rfl
    have hcz16_3 : w8.cell? ⟨gb228, 3, none⟩ = some (.slice A0_3 l0_3.length c0_3) := (blk_cell BK228.out 3).trans rfl
    have hfz16_0 := blk_frozen BK228.out 0
    have hfz16_1 := blk_frozen BK228.out 1
    have hfz16_2 := blk_frozen BK228.out 2
    have hfz16_3 := blk_frozen BK228.out 3
    go_wp2_with (first | ((with_reducible refine gate_callee (f := 8) rfl ?_); refine goesL_ (some 20) rfl rfl Try.func8 (by kernel_rfl) rfl #[.agg #[.slice A0_0 l0_0.length c0_0, .slice A0_1 l0_1.length c0_1, .int .u64 a0_2, .slice A0_3 l0_3.length c0_3]] rfl (by (try simp only [List.map_toArray, List.map_cons, List.map_nil]); first | done | rfl | (simp only [List.length_drop, List.length_take]; rfl)) ?_; (with_reducible refine (ferrylaw04_few.calls _ _ l0_0 _ _ l0_1 a0_2 _ _ l0_3 false _ ?side1 ?side2 ?side3 ?side4 ?side5 ?side6 A9.out).mono ?_); (case side1 => repeat (first | exact (Kd.C_below HR0_0.out HB.out) | (with_reducible refine Kd.C_alloc ?_ _) | (with_reducible refine Kd.C_drewN ?_ _) | (with_reducible refine Kd.C_drew ?_))); (case side2 => exact HC0_0.out); (case side3 => repeat (first | exact (Kd.C_below HR0_1.out HB.out) | (with_reducible refine Kd.C_alloc ?_ _) | (with_reducible refine Kd.C_drewN ?_ _) | (with_reducible refine Kd.C_drew ?_))); (case side4 => exact HC0_1.out); (case side5 => repeat (first | exact (Kd.C_below HR0_3.out HB.out) | (with_reducible refine Kd.C_alloc ?_ _) | (with_reducible refine Kd.C_drewN ?_ _) | (with_reducible refine Kd.C_drew ?_))); (case side6 => exact HC0_3.out); rintro e w17 ⟨rfl, hb⟩; refine ⟨_, rfl, ?_⟩; have n0_ := Aside0.mk (blk_below (g := gb228) (o := .cells #[.slice A0_0 l0_0.length c0_0, .slice A0_1 l0_1.length c0_1, .int .u64 a0_2, .slice A0_3 l0_3.length c0_3] 29 (0, 0)) (bT_ BK228.out) hb); have n1_ := Aside0.mk (below_step beT_ hb); clear BK228; clear HB; have BK228 := n0_; have HB := n1_; clear n0_ n1_; (try clear hb); (try clear hb2); (try clear hk); (try clear hi)))
    go_meet
    case rel => exact ⟨_, (true), (by first | rfl | (simp; done) | (simp [*]; done)), H', ⟨by first | omega | exact Nat.le_refl _⟩, ⟨by (with_reducible repeat (first | refine blk_drewN ?_ _ | refine blk_drew ?_ | refine blk_alloc ?_ _)); exact BK228.out⟩, ⟨by repeat (first | (with_reducible first | exact HB.out | apply below_alloc | apply pw_below_drewN | apply below_drew1 | refine below_set ?_ GE228.out) | exact HB.out)⟩⟩
  case rest =>
    clear HC7
    try clear c1
    try clear p2
    try clear c3
    try clear c8
    try clear c10
    try clear hcz12_0
    try clear hcz12_1
    try clear hcz12_2
    try clear hcz12_3
    try clear hcz14_0
    try clear hcz14_1
    try clear hcz14_2
    try clear hcz14_3
    try clear hcz16_0
    try clear hcz16_1
    try clear hcz16_2
    try clear hcz16_3
    try clear hfz12_0
    try clear hfz12_1
    try clear hfz12_2
    try clear hfz12_3
    try clear hfz14_0
    try clear hfz14_1
    try clear hfz14_2
    try clear hfz14_3
    try clear hfz16_0
    try clear hfz16_1
    try clear hfz16_2
    try clear hfz16_3
    obtain ⟨kq, x26_6, rfl, HA, HJ6, BK228, HB⟩ := hcut
    cases kq with
    | zero => exact absurd HA.out (by simp [ferrylaw04_GuestParts.j0])
    | succ kj6 =>
      have H := HA.out
      clear HA
      simp only [ferrylaw04_GuestParts.j0] at H
      by_cases c18 : x26_6 = true
      · subst c18
        have H1 : ((ferrylaw04_awake.f kj6).bind fun t231 => (some t231)) = some r := by rw [if_pos rfl] at H; exact H
        clear H
        have H := H1
        clear H1
        replace H := Option.bind_eq_some_iff.mp H
        obtain ⟨t231, A190, H⟩ := H
        replace H : (some t231) = some r := H
        have A19 := Aside0.mk A190
        clear A190
        obtain rfl := Option.some.inj H
        go_wp2_with (first | ((with_reducible refine gate_callee (f := 10) rfl ?_); refine goesL_ (some 27) rfl rfl Try.func10 (by kernel_rfl) rfl #[] rfl (by (try simp only [List.map_toArray, List.map_cons, List.map_nil]); first | done | rfl | (simp only [List.length_drop, List.length_take]; rfl)) ?_; (with_reducible refine (ferrylaw04_awake.calls kj6  t231 _ A19.out).mono ?_); rintro e w20 ⟨rfl, hb⟩; refine ⟨_, rfl, ?_⟩; have n0_ := Aside0.mk (blk_below (g := gb228) (o := .cells #[.slice A0_0 l0_0.length c0_0, .slice A0_1 l0_1.length c0_1, .int .u64 a0_2, .slice A0_3 l0_3.length c0_3] 29 (0, 0)) (bT_ BK228.out) hb); have n1_ := Aside0.mk (below_step beT_ hb); clear BK228; clear HB; have BK228 := n0_; have HB := n1_; clear n0_ n1_; (try clear hb); (try clear hb2); (try clear hk); (try clear hi)))
        go_ret
        exact ⟨by first | rfl | (simp [errW_none, errW_some] <;> rfl) | (simp [*, errW_none, errW_some] <;> rfl), by repeat (first | (with_reducible first | exact HB.out | apply below_alloc | apply pw_below_drewN | apply below_drew1 | refine below_set ?_ GE228.out) | exact HB.out)⟩
      replace c18 := Bool.eq_false_iff.mpr c18
      subst c18
      have H1 : (if a4 = true then ((guest_Unmap.f l0_0 l0_1 a0_2 l0_3 a1 a2).bind fun bt233 => (ferrylaw04_GuestParts.j1 kj6 a1 a2 a3 a4 a5 bt233.2.2.2.2 l0_0 l0_1 a0_2 l0_3 bt233.1 bt233.2.1 bt233.2.2.1 bt233.2.2.2.1)) else ((guest_Map.f l0_0 l0_1 a0_2 l0_3 a1 a2 a3).bind fun bt244 => (ferrylaw04_GuestParts.j1 kj6 a1 a2 a3 a4 a5 bt244.2.2.2.2 l0_0 l0_1 a0_2 l0_3 bt244.1 bt244.2.1 bt244.2.2.1 bt244.2.2.2.1))) = some r := by rw [if_neg (show ¬ (false = true) by decide)] at H; exact H
      clear H
      have H := H1
      clear H1
      have HC21 := Aside0.mk H
      clear H
      go_upto_if 28 with (first | ((with_reducible refine gate_dst (N := 13) rfl ?_); refine box_event ?hg (N := 13) ?hd (cs := #[.slice none 0 0, .slice none 0 0, .int .u64 0, .slice none 0 0]) (t := 29) ?hr ?_; (case hd => rfl); (case hg => rfl); (case hr => first | (go_simp; done) | (go_simp; rfl)); intro gb232 hg w22 hbox hb; have n0_ := Aside0.mk (blk_below (g := gb228) (o := .cells #[.slice A0_0 l0_0.length c0_0, .slice A0_1 l0_1.length c0_1, .int .u64 a0_2, .slice A0_3 l0_3.length c0_3] 29 (0, 0)) (bT_ BK228.out) hb); have n1_ := Aside0.mk (below_step beT_ hb); have n2_ := Aside0.mk (hbox); have n3_ := Aside0.mk ((by rw [hg]; exact (below_size beT_) : w.heap.size ≤ gb232)); have n4_ := Aside0.mk ((by rw [hg]; exact (below_size beT_) : w.heap.size ≤ gb232)); have n5_ := Aside0.mk ((by rw [hg]; exact Nat.ne_of_lt (blk_lt (g := gb228) (o := .cells #[.slice A0_0 l0_0.length c0_0, .slice A0_1 l0_1.length c0_1, .int .u64 a0_2, .slice A0_3 l0_3.length c0_3] 29 (0, 0)) (bT_ BK228.out)) : gb228 ≠ gb232)); have n6_ := Aside0.mk ((by rw [hg]; exact Nat.ne_of_gt (blk_lt (g := gb228) (o := .cells #[.slice A0_0 l0_0.length c0_0, .slice A0_1 l0_1.length c0_1, .int .u64 a0_2, .slice A0_3 l0_3.length c0_3] 29 (0, 0)) (bT_ BK228.out)) : gb232 ≠ gb228)); clear BK228; clear HB; have BK228 := n0_; have HB := n1_; have BK232 := n2_; have GW232 := n3_; have GE232 := n4_; have NB228_232 := n5_; have NB232_228 := n6_; clear n0_ n1_ n2_ n3_ n4_ n5_ n6_; clear hb hbox hg))
      (try simp only [Act.put, List.setIfInBounds_toArray, List.set_cons_zero, List.set_cons_succ])
      go_cut [14] (fun v14 wc => ∃ (kq : Nat) (x14_20 : Int) (x233000_20 : List (S55)) (x233001_20 : List (S60)) (x233002_20 : Int) (x233003_20 : List (S39)) (u233000 : Value) (u233001 : Value) (u233003 : Value), v14 = .int .i64 x14_20 ∧ Aside0 (ferrylaw04_GuestParts.j1 kq a1 a2 a3 a4 a5 x14_20 l0_0 l0_1 a0_2 l0_3 x233000_20 x233001_20 x233002_20 x233003_20 = some r) ∧ Aside0 (kq ≤ kj6) ∧ Aside0 (Kd.V k55 55 wc w.heap.size (fun k_ => k_ ≠ gb228 ∧ k_ ≠ gb232) u233000 x233000_20) ∧ Aside0 (Kd.V k60 60 wc w.heap.size (fun k_ => k_ ≠ gb228 ∧ k_ ≠ gb232) u233001 x233001_20) ∧ Aside0 (Kd.V k39 39 wc w.heap.size (fun k_ => k_ ≠ gb228 ∧ k_ ≠ gb232) u233003 x233003_20) ∧ Aside0 (wc.heap[gb228]? = some (.cells #[(.slice A0_0 l0_0.length c0_0), (.slice A0_1 l0_1.length c0_1), .int .u64 a0_2, (.slice A0_3 l0_3.length c0_3)] 29 (0, 0))) ∧ Aside0 (wc.heap[gb232]? = some (.cells #[u233000, u233001, .int .u64 x233002_20, u233003] 29 (0, 0))) ∧ Aside0 (Below w.heap.size w wc))
      case first =>
        have H := HC21.out
        clear HC21
        by_cases c23 : a4 = true
        · subst c23
          have H1 : ((guest_Unmap.f l0_0 l0_1 a0_2 l0_3 a1 a2).bind fun bt233 => (ferrylaw04_GuestParts.j1 kj6 a1 a2 a3 true a5 bt233.2.2.2.2 l0_0 l0_1 a0_2 l0_3 bt233.1 bt233.2.1 bt233.2.2.1 bt233.2.2.2.1)) = some r := by rw [if_pos rfl] at H; exact H
          clear H
          have H := H1
          clear H1
          replace H := Option.bind_eq_some_iff.mp H
          obtain ⟨⟨t233, t236, t239, t240, t243⟩, A240, H⟩ := H
          replace H : (ferrylaw04_GuestParts.j1 kj6 a1 a2 a3 true a5 t243 l0_0 l0_1 a0_2 l0_3 t233 t236 t239 t240) = some r := H
          have A24 := Aside0.mk A240
          clear A240
          have H' := Aside0.mk H
          clear H
          have hnb25 := NB228_232.out
          have hnc25 := NB232_228.out
          have hcz26_0 : w22.cell? ⟨gb228, 0, none⟩ = some (.slice A0_0 l0_0.length c0_0) := (blk_cell BK228.out 0).trans rfl
          have hcz26_1 : w22.cell? ⟨gb228, 1, none⟩ = some (.slice A0_1 l0_1.length c0_1) := (blk_cell BK228.out 1).trans rfl
          have hcz26_2 : w22.cell? ⟨gb228, 2, none⟩ = some (.int .u64 a0_2) := (blk_cell BK228.out 2).trans rfl
          have hcz26_3 : w22.cell? ⟨gb228, 3, none⟩ = some (.slice A0_3 l0_3.length c0_3) := (blk_cell BK228.out 3).trans rfl
          have hfz26_0 := blk_frozen BK228.out 0
          have hfz26_1 := blk_frozen BK228.out 1
          have hfz26_2 := blk_frozen BK228.out 2
          have hfz26_3 := blk_frozen BK228.out 3
          go_wp2_with (first | ((with_reducible refine gate_callee (f := 11) rfl ?_); refine goesL_ (some 33) rfl rfl Try.func11 (by kernel_rfl) rfl #[.agg #[.slice A0_0 l0_0.length c0_0, .slice A0_1 l0_1.length c0_1, .int .u64 a0_2, .slice A0_3 l0_3.length c0_3], .int .u32 a1, .int .u32 a2] rfl (by (try simp only [List.map_toArray, List.map_cons, List.map_nil]); first | done | rfl | (simp only [List.length_drop, List.length_take]; rfl)) ?_; (with_reducible refine (guest_Unmap.calls (fun k_ => k_ < w.heap.size) _ _ l0_0 (fun k_ => k_ < w.heap.size) _ _ l0_1 a0_2 (fun k_ => k_ < w.heap.size) _ _ l0_3 a1 a2 t233 t236 t239 t240 t243 _ ?side1 ?side2 ?side3 A24.out).mono ?_); (case side1 => exact Kd.V_mk HC0_0.out (Kd.F_below (Kd.C_F k55_heap HR0_0.out) beT_)); (case side2 => exact Kd.V_mk HC0_1.out (Kd.F_below (Kd.C_F k60_heap HR0_1.out) beT_)); (case side3 => exact Kd.V_mk HC0_3.out (Kd.F_below (Kd.C_F k39_heap HR0_3.out) beT_)); rintro e w27 ⟨v234, v237, v241, rfl, ho0, ho1, ho2, hb⟩; refine ⟨_, rfl, ?_⟩; have n0_ := Aside0.mk (Kd.V_lower (Kd.V_mono (ok' := fun k_ => k_ ≠ gb228 ∧ k_ ≠ gb232) ho0 (fun k_ hk_ => ⟨Or.elim hk_ (fun hs_ => Or.elim hs_ (fun hs_ => fun e_ => Nat.not_le.2 hs_ (by rw [e_]; exact GW228.out)) (fun hs_ => Or.elim hs_ (fun hs_ => fun e_ => Nat.not_le.2 hs_ (by rw [e_]; exact GW228.out)) (fun hs_ => fun e_ => Nat.not_le.2 hs_ (by rw [e_]; exact GW228.out)))) (fun hn_ => (Kd.freshB (g := gb228) (o := .cells #[.slice A0_0 l0_0.length c0_0, .slice A0_1 l0_1.length c0_1, .int .u64 a0_2, .slice A0_3 l0_3.length c0_3] 29 (0, 0)) (bT_ BK228.out) k_ hn_)), Or.elim hk_ (fun hs_ => Or.elim hs_ (fun hs_ => fun e_ => Nat.not_le.2 hs_ (by rw [e_]; exact GW232.out)) (fun hs_ => Or.elim hs_ (fun hs_ => fun e_ => Nat.not_le.2 hs_ (by rw [e_]; exact GW232.out)) (fun hs_ => fun e_ => Nat.not_le.2 hs_ (by rw [e_]; exact GW232.out)))) (fun hn_ => (Kd.freshB (g := gb232) (o := .cells #[.slice none 0 0, .slice none 0 0, .int .u64 0, .slice none 0 0] 29 (0, 0)) (bT_ BK232.out) k_ hn_))⟩)) (below_size beT_)); have n1_ := Aside0.mk (Kd.V_lower (Kd.V_mono (ok' := fun k_ => k_ ≠ gb228 ∧ k_ ≠ gb232) ho1 (fun k_ hk_ => ⟨Or.elim hk_ (fun hs_ => Or.elim hs_ (fun hs_ => fun e_ => Nat.not_le.2 hs_ (by rw [e_]; exact GW228.out)) (fun hs_ => Or.elim hs_ (fun hs_ => fun e_ => Nat.not_le.2 hs_ (by rw [e_]; exact GW228.out)) (fun hs_ => fun e_ => Nat.not_le.2 hs_ (by rw [e_]; exact GW228.out)))) (fun hn_ => (Kd.freshB (g := gb228) (o := .cells #[.slice A0_0 l0_0.length c0_0, .slice A0_1 l0_1.length c0_1, .int .u64 a0_2, .slice A0_3 l0_3.length c0_3] 29 (0, 0)) (bT_ BK228.out) k_ hn_)), Or.elim hk_ (fun hs_ => Or.elim hs_ (fun hs_ => fun e_ => Nat.not_le.2 hs_ (by rw [e_]; exact GW232.out)) (fun hs_ => Or.elim hs_ (fun hs_ => fun e_ => Nat.not_le.2 hs_ (by rw [e_]; exact GW232.out)) (fun hs_ => fun e_ => Nat.not_le.2 hs_ (by rw [e_]; exact GW232.out)))) (fun hn_ => (Kd.freshB (g := gb232) (o := .cells #[.slice none 0 0, .slice none 0 0, .int .u64 0, .slice none 0 0] 29 (0, 0)) (bT_ BK232.out) k_ hn_))⟩)) (below_size beT_)); have n2_ := Aside0.mk (Kd.V_lower (Kd.V_mono (ok' := fun k_ => k_ ≠ gb228 ∧ k_ ≠ gb232) ho2 (fun k_ hk_ => ⟨Or.elim hk_ (fun hs_ => Or.elim hs_ (fun hs_ => fun e_ => Nat.not_le.2 hs_ (by rw [e_]; exact GW228.out)) (fun hs_ => Or.elim hs_ (fun hs_ => fun e_ => Nat.not_le.2 hs_ (by rw [e_]; exact GW228.out)) (fun hs_ => fun e_ => Nat.not_le.2 hs_ (by rw [e_]; exact GW228.out)))) (fun hn_ => (Kd.freshB (g := gb228) (o := .cells #[.slice A0_0 l0_0.length c0_0, .slice A0_1 l0_1.length c0_1, .int .u64 a0_2, .slice A0_3 l0_3.length c0_3] 29 (0, 0)) (bT_ BK228.out) k_ hn_)), Or.elim hk_ (fun hs_ => Or.elim hs_ (fun hs_ => fun e_ => Nat.not_le.2 hs_ (by rw [e_]; exact GW232.out)) (fun hs_ => Or.elim hs_ (fun hs_ => fun e_ => Nat.not_le.2 hs_ (by rw [e_]; exact GW232.out)) (fun hs_ => fun e_ => Nat.not_le.2 hs_ (by rw [e_]; exact GW232.out)))) (fun hn_ => (Kd.freshB (g := gb232) (o := .cells #[.slice none 0 0, .slice none 0 0, .int .u64 0, .slice none 0 0] 29 (0, 0)) (bT_ BK232.out) k_ hn_))⟩)) (below_size beT_)); have n3_ := Aside0.mk (blk_below (g := gb228) (o := .cells #[.slice A0_0 l0_0.length c0_0, .slice A0_1 l0_1.length c0_1, .int .u64 a0_2, .slice A0_3 l0_3.length c0_3] 29 (0, 0)) (bT_ BK228.out) hb); have n4_ := Aside0.mk (blk_below (g := gb232) (o := .cells #[.slice none 0 0, .slice none 0 0, .int .u64 0, .slice none 0 0] 29 (0, 0)) (bT_ BK232.out) hb); have n5_ := Aside0.mk (below_step beT_ hb); clear BK228; clear BK232; clear HB; have HO235 := n0_; have HO238 := n1_; have HO242 := n2_; have BK228 := n3_; have BK232 := n4_; have HB := n5_; clear n0_ n1_ n2_ n3_ n4_ n5_; (try clear hb); (try clear hb2); (try clear hk); (try clear hi); (try clear ho0); (try clear ho1); (try clear ho2); obtain ⟨Ao28, co28, eo28⟩ := Kd.V_slice HO235.out; subst eo28; have hcz29_0 : w27.cell? ⟨gb232, 0, none⟩ = some (.slice none 0 0) := (blk_cell BK232.out 0).trans rfl; have hcz29_1 : w27.cell? ⟨gb232, 1, none⟩ = some (.slice none 0 0) := (blk_cell BK232.out 1).trans rfl; have hcz29_2 : w27.cell? ⟨gb232, 2, none⟩ = some (.int .u64 0) := (blk_cell BK232.out 2).trans rfl; have hcz29_3 : w27.cell? ⟨gb232, 3, none⟩ = some (.slice none 0 0) := (blk_cell BK232.out 3).trans rfl; have hfz29_0 := blk_frozen BK232.out 0; have hfz29_1 := blk_frozen BK232.out 1; have hfz29_2 := blk_frozen BK232.out 2; have hfz29_3 := blk_frozen BK232.out 3; obtain ⟨Ao30, co30, eo30⟩ := Kd.V_slice HO238.out; subst eo30; obtain ⟨Ao31, co31, eo31⟩ := Kd.V_slice HO242.out; subst eo31))
          go_meet
          case rel => exact ⟨_, (t243), (t233), (t236), (t239), (t240), (.slice Ao28 t233.length co28), (.slice Ao30 t236.length co30), (.slice Ao31 t240.length co31), (by first | rfl | (simp; done) | (simp [*]; done)), H', ⟨by have := HJ6.out; first | omega | exact Nat.le_refl _⟩, ⟨by (with_reducible repeat (first | apply Kd.V_alloc | apply Kd.V_drewN | apply Kd.V_drew)); exact Kd.V_mono (Kd.V_far (p := ⟨gb232, 3, none⟩) (Kd.V_far (p := ⟨gb232, 2, none⟩) (Kd.V_far (p := ⟨gb232, 1, none⟩) (Kd.V_far (p := ⟨gb232, 0, none⟩) (Kd.V_mono HO235.out (fun k_ hk => (⟨hk, by first | exact hk.2 | exact hk.2.1 | exact hk.2.2⟩ : _ ∧ k_ ≠ gb232))) (fun _ hk => hk.2) (.slice Ao28 t233.length co28)) (fun _ hk => hk.2) (.slice Ao30 t236.length co30)) (fun _ hk => hk.2) (.int .u64 t239)) (fun _ hk => hk.2) (.slice Ao31 t240.length co31)) (fun _ hk => ⟨hk.1.1, hk.1.2⟩)⟩, ⟨by (with_reducible repeat (first | apply Kd.V_alloc | apply Kd.V_drewN | apply Kd.V_drew)); exact Kd.V_mono (Kd.V_far (p := ⟨gb232, 3, none⟩) (Kd.V_far (p := ⟨gb232, 2, none⟩) (Kd.V_far (p := ⟨gb232, 1, none⟩) (Kd.V_far (p := ⟨gb232, 0, none⟩) (Kd.V_mono HO238.out (fun k_ hk => (⟨hk, by first | exact hk.2 | exact hk.2.1 | exact hk.2.2⟩ : _ ∧ k_ ≠ gb232))) (fun _ hk => hk.2) (.slice Ao28 t233.length co28)) (fun _ hk => hk.2) (.slice Ao30 t236.length co30)) (fun _ hk => hk.2) (.int .u64 t239)) (fun _ hk => hk.2) (.slice Ao31 t240.length co31)) (fun _ hk => ⟨hk.1.1, hk.1.2⟩)⟩, ⟨by (with_reducible repeat (first | apply Kd.V_alloc | apply Kd.V_drewN | apply Kd.V_drew)); exact Kd.V_mono (Kd.V_far (p := ⟨gb232, 3, none⟩) (Kd.V_far (p := ⟨gb232, 2, none⟩) (Kd.V_far (p := ⟨gb232, 1, none⟩) (Kd.V_far (p := ⟨gb232, 0, none⟩) (Kd.V_mono HO242.out (fun k_ hk => (⟨hk, by first | exact hk.2 | exact hk.2.1 | exact hk.2.2⟩ : _ ∧ k_ ≠ gb232))) (fun _ hk => hk.2) (.slice Ao28 t233.length co28)) (fun _ hk => hk.2) (.slice Ao30 t236.length co30)) (fun _ hk => hk.2) (.int .u64 t239)) (fun _ hk => hk.2) (.slice Ao31 t240.length co31)) (fun _ hk => ⟨hk.1.1, hk.1.2⟩)⟩, ⟨by (with_reducible repeat (first | refine blk_drewN ?_ _ | refine blk_drew ?_ | refine blk_alloc ?_ _)); refine blk_far ?_ NB228_232.out _; (with_reducible repeat (first | refine blk_drewN ?_ _ | refine blk_drew ?_ | refine blk_alloc ?_ _)); refine blk_far ?_ NB228_232.out _; (with_reducible repeat (first | refine blk_drewN ?_ _ | refine blk_drew ?_ | refine blk_alloc ?_ _)); refine blk_far ?_ NB228_232.out _; (with_reducible repeat (first | refine blk_drewN ?_ _ | refine blk_drew ?_ | refine blk_alloc ?_ _)); refine blk_far ?_ NB228_232.out _; (with_reducible repeat (first | refine blk_drewN ?_ _ | refine blk_drew ?_ | refine blk_alloc ?_ _)); exact BK228.out⟩, ⟨by (with_reducible repeat (first | refine blk_drewN ?_ _ | refine blk_drew ?_ | refine blk_alloc ?_ _)); refine blk_put (cs := #[.slice Ao28 t233.length co28, .slice Ao30 t236.length co30, .int .u64 t239, .slice none 0 0]) ?_ 3 _ rfl; (with_reducible repeat (first | refine blk_drewN ?_ _ | refine blk_drew ?_ | refine blk_alloc ?_ _)); refine blk_put (cs := #[.slice Ao28 t233.length co28, .slice Ao30 t236.length co30, .int .u64 0, .slice none 0 0]) ?_ 2 _ rfl; (with_reducible repeat (first | refine blk_drewN ?_ _ | refine blk_drew ?_ | refine blk_alloc ?_ _)); refine blk_put (cs := #[.slice Ao28 t233.length co28, .slice none 0 0, .int .u64 0, .slice none 0 0]) ?_ 1 _ rfl; (with_reducible repeat (first | refine blk_drewN ?_ _ | refine blk_drew ?_ | refine blk_alloc ?_ _)); refine blk_put (cs := #[.slice none 0 0, .slice none 0 0, .int .u64 0, .slice none 0 0]) ?_ 0 _ rfl; (with_reducible repeat (first | refine blk_drewN ?_ _ | refine blk_drew ?_ | refine blk_alloc ?_ _)); exact BK232.out⟩, ⟨by repeat (first | (with_reducible first | exact HB.out | apply below_alloc | apply pw_below_drewN | apply below_drew1 | refine below_set ?_ GE228.out | refine below_set ?_ GE232.out) | exact HB.out)⟩⟩
        replace c23 := Bool.eq_false_iff.mpr c23
        subst c23
        have H1 : ((guest_Map.f l0_0 l0_1 a0_2 l0_3 a1 a2 a3).bind fun bt244 => (ferrylaw04_GuestParts.j1 kj6 a1 a2 a3 false a5 bt244.2.2.2.2 l0_0 l0_1 a0_2 l0_3 bt244.1 bt244.2.1 bt244.2.2.1 bt244.2.2.2.1)) = some r := by rw [if_neg (show ¬ (false = true) by decide)] at H; exact H
        clear H
        have H := H1
        clear H1
        replace H := Option.bind_eq_some_iff.mp H
        obtain ⟨⟨t244, t247, t250, t251, t254⟩, A320, H⟩ := H
        replace H : (ferrylaw04_GuestParts.j1 kj6 a1 a2 a3 false a5 t254 l0_0 l0_1 a0_2 l0_3 t244 t247 t250 t251) = some r := H
        have A32 := Aside0.mk A320
        clear A320
        have H' := Aside0.mk H
        clear H
        have hnb33 := NB228_232.out
        have hnc33 := NB232_228.out
        have hcz34_0 : w22.cell? ⟨gb228, 0, none⟩ = some (.slice A0_0 l0_0.length c0_0) := (blk_cell BK228.out 0).trans rfl
        have hcz34_1 : w22.cell? ⟨gb228, 1, none⟩ = some (.slice A0_1 l0_1.length c0_1) := (blk_cell BK228.out 1).trans rfl
        have hcz34_2 : w22.cell? ⟨gb228, 2, none⟩ = some (.int .u64 a0_2) := (blk_cell BK228.out 2).trans rfl
        have hcz34_3 : w22.cell? ⟨gb228, 3, none⟩ = some (.slice A0_3 l0_3.length c0_3) := (blk_cell BK228.out 3).trans rfl
        have hfz34_0 := blk_frozen BK228.out 0
        have hfz34_1 := blk_frozen BK228.out 1
        have hfz34_2 := blk_frozen BK228.out 2
        have hfz34_3 := blk_frozen BK228.out 3
        go_wp2_with (first | ((with_reducible refine gate_callee (f := 12) rfl ?_); refine goesL_ (some 41) rfl rfl Try.func12 (by kernel_rfl) rfl #[.agg #[.slice A0_0 l0_0.length c0_0, .slice A0_1 l0_1.length c0_1, .int .u64 a0_2, .slice A0_3 l0_3.length c0_3], .int .u32 a1, .int .u32 a2, .int .i64 a3] rfl (by (try simp only [List.map_toArray, List.map_cons, List.map_nil]); first | done | rfl | (simp only [List.length_drop, List.length_take]; rfl)) ?_; (with_reducible refine (guest_Map.calls (fun k_ => k_ < w.heap.size) _ _ l0_0 (fun k_ => k_ < w.heap.size) _ _ l0_1 a0_2 (fun k_ => k_ < w.heap.size) _ _ l0_3 a1 a2 a3 t244 t247 t250 t251 t254 _ ?side1 ?side2 ?side3 A32.out).mono ?_); (case side1 => exact Kd.V_mk HC0_0.out (Kd.F_below (Kd.C_F k55_heap HR0_0.out) beT_)); (case side2 => exact Kd.V_mk HC0_1.out (Kd.F_below (Kd.C_F k60_heap HR0_1.out) beT_)); (case side3 => exact Kd.V_mk HC0_3.out (Kd.F_below (Kd.C_F k39_heap HR0_3.out) beT_)); rintro e w35 ⟨v245, v248, v252, rfl, ho0, ho1, ho2, hb⟩; refine ⟨_, rfl, ?_⟩; have n0_ := Aside0.mk (Kd.V_lower (Kd.V_mono (ok' := fun k_ => k_ ≠ gb228 ∧ k_ ≠ gb232) ho0 (fun k_ hk_ => ⟨Or.elim hk_ (fun hs_ => Or.elim hs_ (fun hs_ => fun e_ => Nat.not_le.2 hs_ (by rw [e_]; exact GW228.out)) (fun hs_ => Or.elim hs_ (fun hs_ => fun e_ => Nat.not_le.2 hs_ (by rw [e_]; exact GW228.out)) (fun hs_ => fun e_ => Nat.not_le.2 hs_ (by rw [e_]; exact GW228.out)))) (fun hn_ => (Kd.freshB (g := gb228) (o := .cells #[.slice A0_0 l0_0.length c0_0, .slice A0_1 l0_1.length c0_1, .int .u64 a0_2, .slice A0_3 l0_3.length c0_3] 29 (0, 0)) (bT_ BK228.out) k_ hn_)), Or.elim hk_ (fun hs_ => Or.elim hs_ (fun hs_ => fun e_ => Nat.not_le.2 hs_ (by rw [e_]; exact GW232.out)) (fun hs_ => Or.elim hs_ (fun hs_ => fun e_ => Nat.not_le.2 hs_ (by rw [e_]; exact GW232.out)) (fun hs_ => fun e_ => Nat.not_le.2 hs_ (by rw [e_]; exact GW232.out)))) (fun hn_ => (Kd.freshB (g := gb232) (o := .cells #[.slice none 0 0, .slice none 0 0, .int .u64 0, .slice none 0 0] 29 (0, 0)) (bT_ BK232.out) k_ hn_))⟩)) (below_size beT_)); have n1_ := Aside0.mk (Kd.V_lower (Kd.V_mono (ok' := fun k_ => k_ ≠ gb228 ∧ k_ ≠ gb232) ho1 (fun k_ hk_ => ⟨Or.elim hk_ (fun hs_ => Or.elim hs_ (fun hs_ => fun e_ => Nat.not_le.2 hs_ (by rw [e_]; exact GW228.out)) (fun hs_ => Or.elim hs_ (fun hs_ => fun e_ => Nat.not_le.2 hs_ (by rw [e_]; exact GW228.out)) (fun hs_ => fun e_ => Nat.not_le.2 hs_ (by rw [e_]; exact GW228.out)))) (fun hn_ => (Kd.freshB (g := gb228) (o := .cells #[.slice A0_0 l0_0.length c0_0, .slice A0_1 l0_1.length c0_1, .int .u64 a0_2, .slice A0_3 l0_3.length c0_3] 29 (0, 0)) (bT_ BK228.out) k_ hn_)), Or.elim hk_ (fun hs_ => Or.elim hs_ (fun hs_ => fun e_ => Nat.not_le.2 hs_ (by rw [e_]; exact GW232.out)) (fun hs_ => Or.elim hs_ (fun hs_ => fun e_ => Nat.not_le.2 hs_ (by rw [e_]; exact GW232.out)) (fun hs_ => fun e_ => Nat.not_le.2 hs_ (by rw [e_]; exact GW232.out)))) (fun hn_ => (Kd.freshB (g := gb232) (o := .cells #[.slice none 0 0, .slice none 0 0, .int .u64 0, .slice none 0 0] 29 (0, 0)) (bT_ BK232.out) k_ hn_))⟩)) (below_size beT_)); have n2_ := Aside0.mk (Kd.V_lower (Kd.V_mono (ok' := fun k_ => k_ ≠ gb228 ∧ k_ ≠ gb232) ho2 (fun k_ hk_ => ⟨Or.elim hk_ (fun hs_ => Or.elim hs_ (fun hs_ => fun e_ => Nat.not_le.2 hs_ (by rw [e_]; exact GW228.out)) (fun hs_ => Or.elim hs_ (fun hs_ => fun e_ => Nat.not_le.2 hs_ (by rw [e_]; exact GW228.out)) (fun hs_ => fun e_ => Nat.not_le.2 hs_ (by rw [e_]; exact GW228.out)))) (fun hn_ => (Kd.freshB (g := gb228) (o := .cells #[.slice A0_0 l0_0.length c0_0, .slice A0_1 l0_1.length c0_1, .int .u64 a0_2, .slice A0_3 l0_3.length c0_3] 29 (0, 0)) (bT_ BK228.out) k_ hn_)), Or.elim hk_ (fun hs_ => Or.elim hs_ (fun hs_ => fun e_ => Nat.not_le.2 hs_ (by rw [e_]; exact GW232.out)) (fun hs_ => Or.elim hs_ (fun hs_ => fun e_ => Nat.not_le.2 hs_ (by rw [e_]; exact GW232.out)) (fun hs_ => fun e_ => Nat.not_le.2 hs_ (by rw [e_]; exact GW232.out)))) (fun hn_ => (Kd.freshB (g := gb232) (o := .cells #[.slice none 0 0, .slice none 0 0, .int .u64 0, .slice none 0 0] 29 (0, 0)) (bT_ BK232.out) k_ hn_))⟩)) (below_size beT_)); have n3_ := Aside0.mk (blk_below (g := gb228) (o := .cells #[.slice A0_0 l0_0.length c0_0, .slice A0_1 l0_1.length c0_1, .int .u64 a0_2, .slice A0_3 l0_3.length c0_3] 29 (0, 0)) (bT_ BK228.out) hb); have n4_ := Aside0.mk (blk_below (g := gb232) (o := .cells #[.slice none 0 0, .slice none 0 0, .int .u64 0, .slice none 0 0] 29 (0, 0)) (bT_ BK232.out) hb); have n5_ := Aside0.mk (below_step beT_ hb); clear BK228; clear BK232; clear HB; have HO246 := n0_; have HO249 := n1_; have HO253 := n2_; have BK228 := n3_; have BK232 := n4_; have HB := n5_; clear n0_ n1_ n2_ n3_ n4_ n5_; (try clear hb); (try clear hb2); (try clear hk); (try clear hi); (try clear ho0); (try clear ho1); (try clear ho2); obtain ⟨Ao36, co36, eo36⟩ := Kd.V_slice HO246.out; subst eo36; have hcz37_0 : w35.cell? ⟨gb232, 0, none⟩ = some (.slice none 0 0) := (blk_cell BK232.out 0).trans rfl; have hcz37_1 : w35.cell? ⟨gb232, 1, none⟩ = some (.slice none 0 0) := (blk_cell BK232.out 1).trans rfl; have hcz37_2 : w35.cell? ⟨gb232, 2, none⟩ = some (.int .u64 0) := (blk_cell BK232.out 2).trans rfl; have hcz37_3 : w35.cell? ⟨gb232, 3, none⟩ = some (.slice none 0 0) := (blk_cell BK232.out 3).trans rfl; have hfz37_0 := blk_frozen BK232.out 0; have hfz37_1 := blk_frozen BK232.out 1; have hfz37_2 := blk_frozen BK232.out 2; have hfz37_3 := blk_frozen BK232.out 3; obtain ⟨Ao38, co38, eo38⟩ := Kd.V_slice HO249.out; subst eo38; obtain ⟨Ao39, co39, eo39⟩ := Kd.V_slice HO253.out; subst eo39))
        go_meet
        case rel => exact ⟨_, (t254), (t244), (t247), (t250), (t251), (.slice Ao36 t244.length co36), (.slice Ao38 t247.length co38), (.slice Ao39 t251.length co39), (by first | rfl | (simp; done) | (simp [*]; done)), H', ⟨by have := HJ6.out; first | omega | exact Nat.le_refl _⟩, ⟨by (with_reducible repeat (first | apply Kd.V_alloc | apply Kd.V_drewN | apply Kd.V_drew)); exact Kd.V_mono (Kd.V_far (p := ⟨gb232, 3, none⟩) (Kd.V_far (p := ⟨gb232, 2, none⟩) (Kd.V_far (p := ⟨gb232, 1, none⟩) (Kd.V_far (p := ⟨gb232, 0, none⟩) (Kd.V_mono HO246.out (fun k_ hk => (⟨hk, by first | exact hk.2 | exact hk.2.1 | exact hk.2.2⟩ : _ ∧ k_ ≠ gb232))) (fun _ hk => hk.2) (.slice Ao36 t244.length co36)) (fun _ hk => hk.2) (.slice Ao38 t247.length co38)) (fun _ hk => hk.2) (.int .u64 t250)) (fun _ hk => hk.2) (.slice Ao39 t251.length co39)) (fun _ hk => ⟨hk.1.1, hk.1.2⟩)⟩, ⟨by (with_reducible repeat (first | apply Kd.V_alloc | apply Kd.V_drewN | apply Kd.V_drew)); exact Kd.V_mono (Kd.V_far (p := ⟨gb232, 3, none⟩) (Kd.V_far (p := ⟨gb232, 2, none⟩) (Kd.V_far (p := ⟨gb232, 1, none⟩) (Kd.V_far (p := ⟨gb232, 0, none⟩) (Kd.V_mono HO249.out (fun k_ hk => (⟨hk, by first | exact hk.2 | exact hk.2.1 | exact hk.2.2⟩ : _ ∧ k_ ≠ gb232))) (fun _ hk => hk.2) (.slice Ao36 t244.length co36)) (fun _ hk => hk.2) (.slice Ao38 t247.length co38)) (fun _ hk => hk.2) (.int .u64 t250)) (fun _ hk => hk.2) (.slice Ao39 t251.length co39)) (fun _ hk => ⟨hk.1.1, hk.1.2⟩)⟩, ⟨by (with_reducible repeat (first | apply Kd.V_alloc | apply Kd.V_drewN | apply Kd.V_drew)); exact Kd.V_mono (Kd.V_far (p := ⟨gb232, 3, none⟩) (Kd.V_far (p := ⟨gb232, 2, none⟩) (Kd.V_far (p := ⟨gb232, 1, none⟩) (Kd.V_far (p := ⟨gb232, 0, none⟩) (Kd.V_mono HO253.out (fun k_ hk => (⟨hk, by first | exact hk.2 | exact hk.2.1 | exact hk.2.2⟩ : _ ∧ k_ ≠ gb232))) (fun _ hk => hk.2) (.slice Ao36 t244.length co36)) (fun _ hk => hk.2) (.slice Ao38 t247.length co38)) (fun _ hk => hk.2) (.int .u64 t250)) (fun _ hk => hk.2) (.slice Ao39 t251.length co39)) (fun _ hk => ⟨hk.1.1, hk.1.2⟩)⟩, ⟨by (with_reducible repeat (first | refine blk_drewN ?_ _ | refine blk_drew ?_ | refine blk_alloc ?_ _)); refine blk_far ?_ NB228_232.out _; (with_reducible repeat (first | refine blk_drewN ?_ _ | refine blk_drew ?_ | refine blk_alloc ?_ _)); refine blk_far ?_ NB228_232.out _; (with_reducible repeat (first | refine blk_drewN ?_ _ | refine blk_drew ?_ | refine blk_alloc ?_ _)); refine blk_far ?_ NB228_232.out _; (with_reducible repeat (first | refine blk_drewN ?_ _ | refine blk_drew ?_ | refine blk_alloc ?_ _)); refine blk_far ?_ NB228_232.out _; (with_reducible repeat (first | refine blk_drewN ?_ _ | refine blk_drew ?_ | refine blk_alloc ?_ _)); exact BK228.out⟩, ⟨by (with_reducible repeat (first | refine blk_drewN ?_ _ | refine blk_drew ?_ | refine blk_alloc ?_ _)); refine blk_put (cs := #[.slice Ao36 t244.length co36, .slice Ao38 t247.length co38, .int .u64 t250, .slice none 0 0]) ?_ 3 _ rfl; (with_reducible repeat (first | refine blk_drewN ?_ _ | refine blk_drew ?_ | refine blk_alloc ?_ _)); refine blk_put (cs := #[.slice Ao36 t244.length co36, .slice Ao38 t247.length co38, .int .u64 0, .slice none 0 0]) ?_ 2 _ rfl; (with_reducible repeat (first | refine blk_drewN ?_ _ | refine blk_drew ?_ | refine blk_alloc ?_ _)); refine blk_put (cs := #[.slice Ao36 t244.length co36, .slice none 0 0, .int .u64 0, .slice none 0 0]) ?_ 1 _ rfl; (with_reducible repeat (first | refine blk_drewN ?_ _ | refine blk_drew ?_ | refine blk_alloc ?_ _)); refine blk_put (cs := #[.slice none 0 0, .slice none 0 0, .int .u64 0, .slice none 0 0]) ?_ 0 _ rfl; (with_reducible repeat (first | refine blk_drewN ?_ _ | refine blk_drew ?_ | refine blk_alloc ?_ _)); exact BK232.out⟩, ⟨by repeat (first | (with_reducible first | exact HB.out | apply below_alloc | apply pw_below_drewN | apply below_drew1 | refine below_set ?_ GE228.out | refine below_set ?_ GE232.out) | exact HB.out)⟩⟩
      case rest =>
        clear HC21
        try clear c1
        try clear c2
        try clear p2
        try clear c3
        try clear c8
        try clear c10
        try clear c11
        try clear c12
        try clear c18
        try clear c23
        try clear c25
        try clear c33
        try clear hcz12_0
        try clear hcz12_1
        try clear hcz12_2
        try clear hcz12_3
        try clear hcz14_0
        try clear hcz14_1
        try clear hcz14_2
        try clear hcz14_3
        try clear hcz16_0
        try clear hcz16_1
        try clear hcz16_2
        try clear hcz16_3
        try clear hcz26_0
        try clear hcz26_1
        try clear hcz26_2
        try clear hcz26_3
        try clear hcz29_0
        try clear hcz29_1
        try clear hcz29_2
        try clear hcz29_3
        try clear hcz34_0
        try clear hcz34_1
        try clear hcz34_2
        try clear hcz34_3
        try clear hcz37_0
        try clear hcz37_1
        try clear hcz37_2
        try clear hcz37_3
        try clear hfz12_0
        try clear hfz12_1
        try clear hfz12_2
        try clear hfz12_3
        try clear hfz14_0
        try clear hfz14_1
        try clear hfz14_2
        try clear hfz14_3
        try clear hfz16_0
        try clear hfz16_1
        try clear hfz16_2
        try clear hfz16_3
        try clear hfz26_0
        try clear hfz26_1
        try clear hfz26_2
        try clear hfz26_3
        try clear hfz29_0
        try clear hfz29_1
        try clear hfz29_2
        try clear hfz29_3
        try clear hfz34_0
        try clear hfz34_1
        try clear hfz34_2
        try clear hfz34_3
        try clear hfz37_0
        try clear hfz37_1
        try clear hfz37_2
        try clear hfz37_3
        try clear p2
        obtain ⟨kq, x14_20, x233000_20, x233001_20, x233002_20, x233003_20, u233000, u233001, u233003, rfl, HA, HJ20, HO_233000, HO_233001, HO_233003, BK228, BK232, HB⟩ := hcut
        cases kq with
        | zero => exact absurd HA.out (by simp [ferrylaw04_GuestParts.j1])
        | succ kj20 =>
          have H := HA.out
          clear HA
          simp only [ferrylaw04_GuestParts.j1] at H
          by_cases c40 : x14_20 = 0
          · rw [if_pos c40] at H
            have c40b0 : (x14_20 == 0) = true := beq_iff_eq.mpr c40
            have c40b1 : (x14_20 != 0) = false := bne_eq_false_iff_eq.mpr c40
            clear c40
            have H' := Aside0.mk H
            clear H
            have hnb41 := NB228_232.out
            have hnc41 := NB232_228.out
            have hcz42_0 : wc.cell? ⟨gb228, 0, none⟩ = some (.slice A0_0 l0_0.length c0_0) := (blk_cell BK228.out 0).trans rfl
            have hcz42_1 : wc.cell? ⟨gb228, 1, none⟩ = some (.slice A0_1 l0_1.length c0_1) := (blk_cell BK228.out 1).trans rfl
            have hcz42_2 : wc.cell? ⟨gb228, 2, none⟩ = some (.int .u64 a0_2) := (blk_cell BK228.out 2).trans rfl
            have hcz42_3 : wc.cell? ⟨gb228, 3, none⟩ = some (.slice A0_3 l0_3.length c0_3) := (blk_cell BK228.out 3).trans rfl
            have hfz42_0 := blk_frozen BK228.out 0
            have hfz42_1 := blk_frozen BK228.out 1
            have hfz42_2 := blk_frozen BK228.out 2
            have hfz42_3 := blk_frozen BK228.out 3
            go_wp2
            go_loopg [55] kj20 (fun kq v55 w' => ∃ (x55_3 : Int), v55 = .int .i64 x55_3 ∧ Aside0 (ferrylaw04_GuestParts.l0 kq a1 a2 a3 a4 a5 l0_3 (l0_3.length : Int) x55_3 l0_0 l0_1 a0_2 l0_3 x233000_20 x233001_20 x233002_20 x233003_20 = some r) ∧ Aside0 (kq ≤ kj20) ∧ Aside0 (Kd.V k55 55 w' w.heap.size (fun k_ => k_ ≠ gb228 ∧ k_ ≠ gb232) u233000 x233000_20) ∧ Aside0 (Kd.V k60 60 w' w.heap.size (fun k_ => k_ ≠ gb228 ∧ k_ ≠ gb232) u233001 x233001_20) ∧ Aside0 (Kd.V k39 39 w' w.heap.size (fun k_ => k_ ≠ gb228 ∧ k_ ≠ gb232) u233003 x233003_20) ∧ Aside0 (w'.heap[gb228]? = some (.cells #[(.slice A0_0 l0_0.length c0_0), (.slice A0_1 l0_1.length c0_1), .int .u64 a0_2, (.slice A0_3 l0_3.length c0_3)] 29 (0, 0))) ∧ Aside0 (w'.heap[gb232]? = some (.cells #[u233000, u233001, .int .u64 x233002_20, u233003] 29 (0, 0))) ∧ Aside0 (Below w.heap.size w w'))
            case atStart => exact ⟨(0), (by first | rfl | (simp; done) | (simp [*]; done)), H', ⟨Nat.le_refl _⟩, ⟨by (with_reducible repeat (first | apply Kd.V_alloc | apply Kd.V_drewN | apply Kd.V_drew)); exact HO_233000.out⟩, ⟨by (with_reducible repeat (first | apply Kd.V_alloc | apply Kd.V_drewN | apply Kd.V_drew)); exact HO_233001.out⟩, ⟨by (with_reducible repeat (first | apply Kd.V_alloc | apply Kd.V_drewN | apply Kd.V_drew)); exact HO_233003.out⟩, ⟨by (with_reducible repeat (first | refine blk_drewN ?_ _ | refine blk_drew ?_ | refine blk_alloc ?_ _)); exact BK228.out⟩, ⟨by (with_reducible repeat (first | refine blk_drewN ?_ _ | refine blk_drew ?_ | refine blk_alloc ?_ _)); exact BK232.out⟩, ⟨by repeat (first | (with_reducible first | exact HB.out | apply below_alloc | apply pw_below_drewN | apply below_drew1 | refine below_set ?_ GE228.out | refine below_set ?_ GE232.out) | exact HB.out)⟩⟩
            case round =>
              clear H'
              try clear c1
              try clear c2
              try clear p2
              try clear c3
              try clear c4
              try clear c8
              try clear c10
              try clear c11
              try clear c12
              try clear c18
              try clear c23
              try clear c25
              try clear c33
              try clear c40
              try clear c40b0
              try clear c40b1
              try clear c41
              try clear hcz12_0
              try clear hcz12_1
              try clear hcz12_2
              try clear hcz12_3
              try clear hcz14_0
              try clear hcz14_1
              try clear hcz14_2
              try clear hcz14_3
              try clear hcz16_0
              try clear hcz16_1
              try clear hcz16_2
              try clear hcz16_3
              try clear hcz26_0
              try clear hcz26_1
              try clear hcz26_2
              try clear hcz26_3
              try clear hcz29_0
              try clear hcz29_1
              try clear hcz29_2
              try clear hcz29_3
              try clear hcz34_0
              try clear hcz34_1
              try clear hcz34_2
              try clear hcz34_3
              try clear hcz37_0
              try clear hcz37_1
              try clear hcz37_2
              try clear hcz37_3
              try clear hcz42_0
              try clear hcz42_1
              try clear hcz42_2
              try clear hcz42_3
              try clear hfz12_0
              try clear hfz12_1
              try clear hfz12_2
              try clear hfz12_3
              try clear hfz14_0
              try clear hfz14_1
              try clear hfz14_2
              try clear hfz14_3
              try clear hfz16_0
              try clear hfz16_1
              try clear hfz16_2
              try clear hfz16_3
              try clear hfz26_0
              try clear hfz26_1
              try clear hfz26_2
              try clear hfz26_3
              try clear hfz29_0
              try clear hfz29_1
              try clear hfz29_2
              try clear hfz29_3
              try clear hfz34_0
              try clear hfz34_1
              try clear hfz34_2
              try clear hfz34_3
              try clear hfz37_0
              try clear hfz37_1
              try clear hfz37_2
              try clear hfz37_3
              try clear hfz42_0
              try clear hfz42_1
              try clear hfz42_2
              try clear hfz42_3
              try clear p2
              obtain ⟨x55_3, rfl, HA, HK3, HO_233000, HO_233001, HO_233003, BK228, BK232, HB⟩ := hrel
              cases gk with
              | zero => exact absurd HA.out (by simp [ferrylaw04_GuestParts.l0])
              | succ k3 =>
                have H := HA.out
                clear HA
                simp only [ferrylaw04_GuestParts.l0] at H
                by_cases c43 : x55_3 < (l0_3.length : Int)
                · rw [if_pos c43] at H
                  have c43b0 : decide (x55_3 < (l0_3.length : Int)) = true := decide_eq_true c43
                  clear c43
                  by_cases c44 : 0 ≤ x55_3
                  · rw [if_pos c44] at H
                    have c44b0 : decide (0 ≤ x55_3) = true := decide_eq_true c44
                    clear c44
                    by_cases c45 : x55_3 < (l0_3.length : Int)
                    · rw [if_pos c45] at H
                      have c45b0 : decide (x55_3 < (l0_3.length : Int)) = true := decide_eq_true c45
                      clear c45
                      by_cases c46 : ((rd_T39 l0_3 x55_3).f0) < a1
                      · rw [if_pos c46] at H
                        have c46b0 : decide (((rd_T39 l0_3 x55_3).f0) < a1) = true := decide_eq_true c46
                        clear c46
                        replace H := Option.bind_eq_some_iff.mp H
                        obtain ⟨t259, A470, H⟩ := H
                        replace H : (if t259 = ((rd_T39 l0_3 x55_3).f1) then (ferrylaw04_GuestParts.l0 k3 a1 a2 a3 a4 a5 l0_3 (l0_3.length : Int) (wrap64 (x55_3 + 1)) l0_0 l0_1 a0_2 l0_3 x233000_20 x233001_20 x233002_20 x233003_20) else (none)) = some r := H
                        have A47 := Aside0.mk A470
                        clear A470
                        by_cases c48 : t259 = ((rd_T39 l0_3 x55_3).f1)
                        · rw [if_pos c48] at H
                          have c48b0 : (t259 == ((rd_T39 l0_3 x55_3).f1)) = true := beq_iff_eq.mpr c48
                          have c48b1 : (t259 != ((rd_T39 l0_3 x55_3).f1)) = false := bne_eq_false_iff_eq.mpr c48
                          clear c48
                          have H' := Aside0.mk H
                          clear H
                          have p257 : 0 ≤ (x55_3 : Int) := of_decide_eq_true (by first | (with_reducible assumption) | assumption)
                          have q257 : x55_3 < (l0_3.length : Int) := of_decide_eq_true (by first | (with_reducible assumption) | assumption)
                          obtain ⟨ad257, e257, hx257_0, hx257_1⟩ := at_T39 HR0_3.out x55_3 p257 q257
                          cases e257
                          replace hx257_0 := (HB.out.cell (World.block_lt_of_cell? w _ hx257_0)).trans hx257_0
                          replace hx257_1 := (HB.out.cell (World.block_lt_of_cell? w _ hx257_1)).trans hx257_1
                          replace p257 := eq_true p257
                          replace q257 := eq_true q257
                          try go_wp2_with (first | ((with_reducible refine gate_dst (N := 16) rfl ?_); refine box_event ?hg (N := 16) ?hd (cs := #[.int .u32 0, .int .i64 0]) (t := 39) ?hr ?_; (case hd => rfl); (case hg => rfl); (case hr => first | (go_simp; done) | (go_simp; rfl)); intro gb258 hg w49 hbox hb; have n0_ := Aside0.mk (Kd.V_below (Kd.V_elderB (vT_ HO_233000.out) gb258 (Nat.le_of_eq hg.symm)) hb); have n1_ := Aside0.mk (Kd.V_below (Kd.V_elderB (vT_ HO_233001.out) gb258 (Nat.le_of_eq hg.symm)) hb); have n2_ := Aside0.mk (Kd.V_below (Kd.V_elderB (vT_ HO_233003.out) gb258 (Nat.le_of_eq hg.symm)) hb); have n3_ := Aside0.mk (blk_below (g := gb228) (o := .cells #[.slice A0_0 l0_0.length c0_0, .slice A0_1 l0_1.length c0_1, .int .u64 a0_2, .slice (some ad257) l0_3.length c0_3] 29 (0, 0)) (bT_ BK228.out) hb); have n4_ := Aside0.mk (blk_below (g := gb232) (o := .cells #[u233000, u233001, .int .u64 x233002_20, u233003] 29 (0, 0)) (bT_ BK232.out) hb); have n5_ := Aside0.mk (below_step beT_ hb); have n6_ := Aside0.mk (hbox); have n7_ := Aside0.mk ((by rw [hg]; exact (below_size beT_) : w.heap.size ≤ gb258)); have n8_ := Aside0.mk ((by rw [hg]; exact (below_size beT_) : w.heap.size ≤ gb258)); have n9_ := Aside0.mk ((by rw [hg]; exact Nat.ne_of_lt (blk_lt (g := gb228) (o := .cells #[.slice A0_0 l0_0.length c0_0, .slice A0_1 l0_1.length c0_1, .int .u64 a0_2, .slice (some ad257) l0_3.length c0_3] 29 (0, 0)) (bT_ BK228.out)) : gb228 ≠ gb258)); have n10_ := Aside0.mk ((by rw [hg]; exact Nat.ne_of_gt (blk_lt (g := gb228) (o := .cells #[.slice A0_0 l0_0.length c0_0, .slice A0_1 l0_1.length c0_1, .int .u64 a0_2, .slice (some ad257) l0_3.length c0_3] 29 (0, 0)) (bT_ BK228.out)) : gb258 ≠ gb228)); have n11_ := Aside0.mk ((by rw [hg]; exact Nat.ne_of_lt (blk_lt (g := gb232) (o := .cells #[u233000, u233001, .int .u64 x233002_20, u233003] 29 (0, 0)) (bT_ BK232.out)) : gb232 ≠ gb258)); have n12_ := Aside0.mk ((by rw [hg]; exact Nat.ne_of_gt (blk_lt (g := gb232) (o := .cells #[u233000, u233001, .int .u64 x233002_20, u233003] 29 (0, 0)) (bT_ BK232.out)) : gb258 ≠ gb232)); clear HO_233000; clear HO_233001; clear HO_233003; clear BK228; clear BK232; clear HB; have HO_233000 := n0_; have HO_233001 := n1_; have HO_233003 := n2_; have BK228 := n3_; have BK232 := n4_; have HB := n5_; have BK258 := n6_; have GW258 := n7_; have GE258 := n8_; have NB228_258 := n9_; have NB258_228 := n10_; have NB232_258 := n11_; have NB258_232 := n12_; clear n0_ n1_ n2_ n3_ n4_ n5_ n6_ n7_ n8_ n9_ n10_ n11_ n12_; clear hb hbox hg; have hnb50 := NB258_228.out; have hnc50 := NB228_258.out; have hnb51 := NB258_232.out; have hnc51 := NB232_258.out; have hcz52_0 : w49.cell? ⟨gb258, 0, none⟩ = some (.int .u32 0) := (blk_cell BK258.out 0).trans rfl; have hcz52_1 : w49.cell? ⟨gb258, 1, none⟩ = some (.int .i64 0) := (blk_cell BK258.out 1).trans rfl; have hfz52_0 := blk_frozen BK258.out 0; have hfz52_1 := blk_frozen BK258.out 1))
                          have n0_ : Aside0 (Kd.V k55 55 ((w49.setCell ⟨gb258, 0, none⟩ (.int .u32 ((rd_T39 l0_3 x55_3).f0))).setCell ⟨gb258, 1, none⟩ (.int .i64 ((rd_T39 l0_3 x55_3).f1))) w.heap.size (fun k_ => k_ ≠ gb228 ∧ k_ ≠ gb232 ∧ k_ ≠ gb258) u233000 x233000_20) := ⟨by (with_reducible repeat (first | apply Kd.V_alloc | apply Kd.V_drewN | apply Kd.V_drew)); exact Kd.V_mono (Kd.V_far (p := ⟨gb258, 1, none⟩) (Kd.V_far (p := ⟨gb258, 0, none⟩) (Kd.V_mono HO_233000.out (fun k_ hk => (⟨hk, by first | exact hk.2 | exact hk.2.1 | exact hk.2.2⟩ : _ ∧ k_ ≠ gb258))) (fun _ hk => hk.2) (.int .u32 ((rd_T39 l0_3 x55_3).f0))) (fun _ hk => hk.2) (.int .i64 ((rd_T39 l0_3 x55_3).f1))) (fun _ hk => ⟨hk.1.1.1, ⟨hk.1.1.2, hk.1.2⟩⟩)⟩
                          have n1_ : Aside0 (Kd.V k60 60 ((w49.setCell ⟨gb258, 0, none⟩ (.int .u32 ((rd_T39 l0_3 x55_3).f0))).setCell ⟨gb258, 1, none⟩ (.int .i64 ((rd_T39 l0_3 x55_3).f1))) w.heap.size (fun k_ => k_ ≠ gb228 ∧ k_ ≠ gb232 ∧ k_ ≠ gb258) u233001 x233001_20) := ⟨by (with_reducible repeat (first | apply Kd.V_alloc | apply Kd.V_drewN | apply Kd.V_drew)); exact Kd.V_mono (Kd.V_far (p := ⟨gb258, 1, none⟩) (Kd.V_far (p := ⟨gb258, 0, none⟩) (Kd.V_mono HO_233001.out (fun k_ hk => (⟨hk, by first | exact hk.2 | exact hk.2.1 | exact hk.2.2⟩ : _ ∧ k_ ≠ gb258))) (fun _ hk => hk.2) (.int .u32 ((rd_T39 l0_3 x55_3).f0))) (fun _ hk => hk.2) (.int .i64 ((rd_T39 l0_3 x55_3).f1))) (fun _ hk => ⟨hk.1.1.1, ⟨hk.1.1.2, hk.1.2⟩⟩)⟩
                          have n2_ : Aside0 (Kd.V k39 39 ((w49.setCell ⟨gb258, 0, none⟩ (.int .u32 ((rd_T39 l0_3 x55_3).f0))).setCell ⟨gb258, 1, none⟩ (.int .i64 ((rd_T39 l0_3 x55_3).f1))) w.heap.size (fun k_ => k_ ≠ gb228 ∧ k_ ≠ gb232 ∧ k_ ≠ gb258) u233003 x233003_20) := ⟨by (with_reducible repeat (first | apply Kd.V_alloc | apply Kd.V_drewN | apply Kd.V_drew)); exact Kd.V_mono (Kd.V_far (p := ⟨gb258, 1, none⟩) (Kd.V_far (p := ⟨gb258, 0, none⟩) (Kd.V_mono HO_233003.out (fun k_ hk => (⟨hk, by first | exact hk.2 | exact hk.2.1 | exact hk.2.2⟩ : _ ∧ k_ ≠ gb258))) (fun _ hk => hk.2) (.int .u32 ((rd_T39 l0_3 x55_3).f0))) (fun _ hk => hk.2) (.int .i64 ((rd_T39 l0_3 x55_3).f1))) (fun _ hk => ⟨hk.1.1.1, ⟨hk.1.1.2, hk.1.2⟩⟩)⟩
                          have n3_ : Aside0 (((w49.setCell ⟨gb258, 0, none⟩ (.int .u32 ((rd_T39 l0_3 x55_3).f0))).setCell ⟨gb258, 1, none⟩ (.int .i64 ((rd_T39 l0_3 x55_3).f1))).heap[gb228]? = some (.cells #[.slice A0_0 l0_0.length c0_0, .slice A0_1 l0_1.length c0_1, .int .u64 a0_2, .slice (some ad257) l0_3.length c0_3] 29 (0, 0))) := ⟨by (with_reducible repeat (first | refine blk_drewN ?_ _ | refine blk_drew ?_ | refine blk_alloc ?_ _)); refine blk_far ?_ NB228_258.out _; (with_reducible repeat (first | refine blk_drewN ?_ _ | refine blk_drew ?_ | refine blk_alloc ?_ _)); refine blk_far ?_ NB228_258.out _; (with_reducible repeat (first | refine blk_drewN ?_ _ | refine blk_drew ?_ | refine blk_alloc ?_ _)); exact BK228.out⟩
                          have n4_ : Aside0 (((w49.setCell ⟨gb258, 0, none⟩ (.int .u32 ((rd_T39 l0_3 x55_3).f0))).setCell ⟨gb258, 1, none⟩ (.int .i64 ((rd_T39 l0_3 x55_3).f1))).heap[gb232]? = some (.cells #[u233000, u233001, .int .u64 x233002_20, u233003] 29 (0, 0))) := ⟨by (with_reducible repeat (first | refine blk_drewN ?_ _ | refine blk_drew ?_ | refine blk_alloc ?_ _)); refine blk_far ?_ NB232_258.out _; (with_reducible repeat (first | refine blk_drewN ?_ _ | refine blk_drew ?_ | refine blk_alloc ?_ _)); refine blk_far ?_ NB232_258.out _; (with_reducible repeat (first | refine blk_drewN ?_ _ | refine blk_drew ?_ | refine blk_alloc ?_ _)); exact BK232.out⟩
                          have n5_ : Aside0 (((w49.setCell ⟨gb258, 0, none⟩ (.int .u32 ((rd_T39 l0_3 x55_3).f0))).setCell ⟨gb258, 1, none⟩ (.int .i64 ((rd_T39 l0_3 x55_3).f1))).heap[gb258]? = some (.cells #[.int .u32 ((rd_T39 l0_3 x55_3).f0), .int .i64 ((rd_T39 l0_3 x55_3).f1)] 39 (0, 0))) := ⟨by (with_reducible repeat (first | refine blk_drewN ?_ _ | refine blk_drew ?_ | refine blk_alloc ?_ _)); refine blk_put (cs := #[.int .u32 ((rd_T39 l0_3 x55_3).f0), .int .i64 0]) ?_ 1 _ rfl; (with_reducible repeat (first | refine blk_drewN ?_ _ | refine blk_drew ?_ | refine blk_alloc ?_ _)); refine blk_put (cs := #[.int .u32 0, .int .i64 0]) ?_ 0 _ rfl; (with_reducible repeat (first | refine blk_drewN ?_ _ | refine blk_drew ?_ | refine blk_alloc ?_ _)); exact BK258.out⟩
                          have n6_ : Aside0 (Below w.heap.size w ((w49.setCell ⟨gb258, 0, none⟩ (.int .u32 ((rd_T39 l0_3 x55_3).f0))).setCell ⟨gb258, 1, none⟩ (.int .i64 ((rd_T39 l0_3 x55_3).f1)))) := ⟨by repeat (first | (with_reducible first | exact HB.out | apply below_alloc | apply pw_below_drewN | apply below_drew1 | refine below_set ?_ GE228.out | refine below_set ?_ GE232.out | refine below_set ?_ GE258.out) | exact HB.out)⟩
                          (try clear HO_233000)
                          (try clear HO_233001)
                          (try clear HO_233003)
                          (try clear BK228)
                          (try clear BK232)
                          (try clear BK258)
                          (try clear HB)
                          generalize ((w49.setCell ⟨gb258, 0, none⟩ (.int .u32 ((rd_T39 l0_3 x55_3).f0))).setCell ⟨gb258, 1, none⟩ (.int .i64 ((rd_T39 l0_3 x55_3).f1))) = w53 at n0_ n1_ n2_ n3_ n4_ n5_ n6_ ⊢
                          have HO_233000 := n0_
                          have HO_233001 := n1_
                          have HO_233003 := n2_
                          have BK228 := n3_
                          have BK232 := n4_
                          have BK258 := n5_
                          have HB := n6_
                          clear n0_ n1_ n2_ n3_ n4_ n5_ n6_
                          have n0_ := Aside0.mk (Kd.V_drew HO_233000.out)
                          have n1_ := Aside0.mk (Kd.V_drew HO_233001.out)
                          have n2_ := Aside0.mk (Kd.V_drew HO_233003.out)
                          have n3_ := Aside0.mk (blk_drew BK228.out)
                          have n4_ := Aside0.mk (blk_drew BK232.out)
                          have n5_ := Aside0.mk (blk_drew BK258.out)
                          have n6_ := Aside0.mk (below_drew1 HB.out)
                          clear HO_233000
                          clear HO_233001
                          clear HO_233003
                          clear BK228
                          clear BK232
                          clear BK258
                          clear HB
                          have HO_233000 := n0_
                          have HO_233001 := n1_
                          have HO_233003 := n2_
                          have BK228 := n3_
                          have BK232 := n4_
                          have BK258 := n5_
                          have HB := n6_
                          clear n0_ n1_ n2_ n3_ n4_ n5_ n6_
                          obtain ⟨Ao55, co55, eo55⟩ := Kd.V_slice HO_233000.out
                          (first | subst eo55 | (injection eo55 with f1_ f2_ f3_; have f4_ := f1_.symm; have f5_ := f3_.symm; clear f1_ f2_ f3_; subst f4_; subst f5_))
                          obtain ⟨Ao56, co56, eo56⟩ := Kd.V_slice HO_233001.out
                          (first | subst eo56 | (injection eo56 with f1_ f2_ f3_; have f4_ := f1_.symm; have f5_ := f3_.symm; clear f1_ f2_ f3_; subst f4_; subst f5_))
                          obtain ⟨Ao57, co57, eo57⟩ := Kd.V_slice HO_233003.out
                          (first | subst eo57 | (injection eo57 with f1_ f2_ f3_; have f4_ := f1_.symm; have f5_ := f3_.symm; clear f1_ f2_ f3_; subst f4_; subst f5_))
                          refine start_ (n := 21) (S := fun w' => w'.cell? ⟨gb258, 0, none⟩ = some (.int .u32 ((rd_T39 l0_3 x55_3).f0)) ∧ w'.cell? ⟨gb258, 1, none⟩ = some (.int .i64 ((rd_T39 l0_3 x55_3).f1)) ∧ w'.cell? ⟨gb232, 0, none⟩ = some (.slice Ao55 x233000_20.length co55) ∧ w'.cell? ⟨gb232, 1, none⟩ = some (.slice Ao56 x233001_20.length co56) ∧ w'.cell? ⟨gb232, 2, none⟩ = some (.int .u64 x233002_20) ∧ w'.cell? ⟨gb232, 3, none⟩ = some (.slice Ao57 x233003_20.length co57)) (ds := []) #[false, false, false, false, false, false, false, false, false, false, false, false, false, false, false, false, false, false, false, false, false] (by kernel_rfl) rfl rfl ⟨(blk_cell BK258.out 0).trans rfl, (blk_cell BK258.out 1).trans rfl, (blk_cell BK232.out 0).trans rfl, (blk_cell BK232.out 1).trans rfl, (blk_cell BK232.out 2).trans rfl, (blk_cell BK232.out 3).trans rfl⟩ (fun hHeld => ?_); refine with_tabW ferrylaw04_GuestParts.tab13 ferrylaw04_GuestParts.bits13 (fun HT_ HW_ => ?_)
                          generalize w53.drew = w54 at HO_233000 HO_233001 HO_233003 BK228 BK232 BK258 HB hHeld ⊢
                          refine pS_ 0 59 (mb_ 21 1) ?_
                          refine pS_ 2 61 (mb_ 21 5) ?_
                          refine t6S_ 1 60 (mb_ 21 7) ?_
                          refine pS_ 3 62 (mb_ 21 15) ?_
                          refine pS_ 4 63 (mb_ 21 31) ?_
                          refine uS_ 5 64 (mb_ 21 63) ?_
                          refine uS_ 6 65 (mb_ 21 127) ?_
                          refine uS_ 7 66 (mb_ 21 255) ?_
                          refine uS_ 8 67 (mb_ 21 511) ?_
                          refine uS_ 9 68 (mb_ 21 1023) ?_
                          refine uS_ 10 69 (mb_ 21 2047) ?_
                          refine pS_ 11 70 (mb_ 21 4095) ?_
                          refine pS_ 12 71 (mb_ 21 8191) ?_
                          refine pS_ 14 73 (mb_ 21 24575) ?_
                          refine pS_ 17 76 (mb_ 21 155647) ?_
                          refine t6S_ 13 72 (mb_ 21 163839) ?_
                          refine t6S_ 15 74 (mb_ 21 196607) ?_
                          refine t6S_ 18 77 (mb_ 21 458751) ?_
                          refine one_ (i := 16) (N := some 75) (mb_ 21 524287) rfl rfl (one_of HT_.out (by kernel_rfl)) (by decide) (fun K hK => ?_)
                          refine goes_ Try.func14 (by kernel_rfl) rfl #[.agg #[.slice Ao55 x233000_20.length co55, .slice Ao56 x233001_20.length co56, .int .u64 x233002_20, .slice Ao57 x233003_20.length co57], .int .u32 ((rd_T39 l0_3 x55_3).f0)] (by rfl) rfl rfl (by (try simp only [List.map_toArray, List.map_cons, List.map_nil]); first | done | rfl | (simp only [List.length_drop, List.length_take]; rfl)) ?_
                          with_reducible refine (ferryref04_Prot.calls k3 _ _ x233000_20 _ _ x233001_20 x233002_20 _ _ x233003_20 ((rd_T39 l0_3 x55_3).f0) t259 _ ?side1 ?side2 ?side3 ?side4 ?side5 ?side6 A47.out).mono ?_
                          (case side1 => repeat (first | exact (Kd.V_reads' HO_233000.out).2.2 | (with_reducible refine Kd.C_alloc ?_ _) | (with_reducible refine Kd.C_drewN ?_ _) | (with_reducible refine Kd.C_drew ?_)))
                          (case side2 => exact (Kd.V_reads' HO_233000.out).2.1)
                          (case side3 => repeat (first | exact (Kd.V_reads' HO_233001.out).2.2 | (with_reducible refine Kd.C_alloc ?_ _) | (with_reducible refine Kd.C_drewN ?_ _) | (with_reducible refine Kd.C_drew ?_)))
                          (case side4 => exact (Kd.V_reads' HO_233001.out).2.1)
                          (case side5 => repeat (first | exact (Kd.V_reads' HO_233003.out).2.2 | (with_reducible refine Kd.C_alloc ?_ _) | (with_reducible refine Kd.C_drewN ?_ _) | (with_reducible refine Kd.C_drew ?_)))
                          (case side6 => exact (Kd.V_reads' HO_233003.out).2.1)
                          rintro e w58 ⟨rfl, hb⟩
                          refine ⟨_, rfl, ?_⟩
                          have n0_ := Aside0.mk (Kd.V_below (vT_ HO_233000.out) hb)
                          have n1_ := Aside0.mk (Kd.V_below (vT_ HO_233001.out) hb)
                          have n2_ := Aside0.mk (Kd.V_below (vT_ HO_233003.out) hb)
                          have n3_ := Aside0.mk (blk_below (g := gb228) (o := .cells #[.slice A0_0 l0_0.length c0_0, .slice A0_1 l0_1.length c0_1, .int .u64 a0_2, .slice (some ad257) l0_3.length c0_3] 29 (0, 0)) (bT_ BK228.out) hb)
                          have n4_ := Aside0.mk (blk_below (g := gb232) (o := .cells #[.slice Ao55 x233000_20.length co55, .slice Ao56 x233001_20.length co56, .int .u64 x233002_20, .slice Ao57 x233003_20.length co57] 29 (0, 0)) (bT_ BK232.out) hb)
                          have n5_ := Aside0.mk (blk_below (g := gb258) (o := .cells #[.int .u32 ((rd_T39 l0_3 x55_3).f0), .int .i64 ((rd_T39 l0_3 x55_3).f1)] 39 (0, 0)) (bT_ BK258.out) hb)
                          have n6_ := Aside0.mk (below_step beT_ hb)
                          clear HO_233000
                          clear HO_233001
                          clear HO_233003
                          clear BK228
                          clear BK232
                          clear BK258
                          clear HB
                          have HO_233000 := n0_
                          have HO_233001 := n1_
                          have HO_233003 := n2_
                          have BK228 := n3_
                          have BK232 := n4_
                          have BK258 := n5_
                          have HB := n6_
                          clear n0_ n1_ n2_ n3_ n4_ n5_ n6_
                          (try clear hb)
                          (try clear hb2)
                          (try clear hk)
                          (try clear hi)
                          refine hK.out _ _ ⟨(blk_cell BK258.out 0).trans rfl, (blk_cell BK258.out 1).trans rfl, (blk_cell BK232.out 0).trans rfl, (blk_cell BK232.out 1).trans rfl, (blk_cell BK232.out 2).trans rfl, (blk_cell BK232.out 3).trans rfl⟩ (fun hHeld => ?_)
                          clear hK K
                          refine nS_ ?_
                          refine pS_ 19 78 (mb_ 21 1048575) ?_
                          refine pS_ 20 79 (mb_ 21 2097151) ?_
                          refine done_ (done_of HT_.out (by kernel_rfl)) ?_
                          try go_wp2
                          go_roundg k3
                          case measure => have := HJ6.out; have := HJ20.out; have := HK3.out; omega
                          case rel => exact ⟨(wrap64 (x55_3 + 1)), (by first | rfl | (simp; done) | (simp [*]; done)), H', ⟨by have := HJ6.out; have := HJ20.out; have := HK3.out; omega⟩, ⟨by (with_reducible repeat (first | apply Kd.V_alloc | apply Kd.V_drewN | apply Kd.V_drew)); exact Kd.V_mono HO_233000.out (fun _ hk => ⟨hk.1, hk.2.1⟩)⟩, ⟨by (with_reducible repeat (first | apply Kd.V_alloc | apply Kd.V_drewN | apply Kd.V_drew)); exact Kd.V_mono HO_233001.out (fun _ hk => ⟨hk.1, hk.2.1⟩)⟩, ⟨by (with_reducible repeat (first | apply Kd.V_alloc | apply Kd.V_drewN | apply Kd.V_drew)); exact Kd.V_mono HO_233003.out (fun _ hk => ⟨hk.1, hk.2.1⟩)⟩, ⟨by (with_reducible repeat (first | refine blk_drewN ?_ _ | refine blk_drew ?_ | refine blk_alloc ?_ _)); exact BK228.out⟩, ⟨by (with_reducible repeat (first | refine blk_drewN ?_ _ | refine blk_drew ?_ | refine blk_alloc ?_ _)); exact BK232.out⟩, ⟨by repeat (first | (with_reducible first | exact HB.out | apply below_alloc | apply pw_below_drewN | apply below_drew1 | refine below_set ?_ GE228.out | refine below_set ?_ GE232.out | refine below_set ?_ GE258.out) | exact HB.out)⟩⟩
                        rw [if_neg c48] at H
                        exact absurd H (by simp)
                      rw [if_neg c46] at H
                      have c46b0 : decide (((rd_T39 l0_3 x55_3).f0) < a1) = false := decide_eq_false c46
                      clear c46
                      by_cases c59 : ((((rd_T39 l0_3 x55_3).f0) - a1) % 4294967296) ≥ a2
                      · rw [if_pos c59] at H
                        have c59b0 : decide (a2 ≤ ((((rd_T39 l0_3 x55_3).f0) - a1) % 4294967296)) = true := decide_eq_true c59
                        (try (have c59bs0 := c59b0; simp only [Int.add_emod_emod, Int.emod_add_emod, Int.sub_emod_emod, Int.emod_sub_emod] at c59bs0))
                        clear c59
                        replace H := Option.bind_eq_some_iff.mp H
                        obtain ⟨t260, A600, H⟩ := H
                        replace H : (if t260 = ((rd_T39 l0_3 x55_3).f1) then (ferrylaw04_GuestParts.l0 k3 a1 a2 a3 a4 a5 l0_3 (l0_3.length : Int) (wrap64 (x55_3 + 1)) l0_0 l0_1 a0_2 l0_3 x233000_20 x233001_20 x233002_20 x233003_20) else (none)) = some r := H
                        have A60 := Aside0.mk A600
                        clear A600
                        by_cases c61 : t260 = ((rd_T39 l0_3 x55_3).f1)
                        · rw [if_pos c61] at H
                          have c61b0 : (t260 == ((rd_T39 l0_3 x55_3).f1)) = true := beq_iff_eq.mpr c61
                          have c61b1 : (t260 != ((rd_T39 l0_3 x55_3).f1)) = false := bne_eq_false_iff_eq.mpr c61
                          clear c61
                          have H' := Aside0.mk H
                          clear H
                          have p257 : 0 ≤ (x55_3 : Int) := of_decide_eq_true (by first | (with_reducible assumption) | assumption)
                          have q257 : x55_3 < (l0_3.length : Int) := of_decide_eq_true (by first | (with_reducible assumption) | assumption)
                          obtain ⟨ad257, e257, hx257_0, hx257_1⟩ := at_T39 HR0_3.out x55_3 p257 q257
                          cases e257
                          replace hx257_0 := (HB.out.cell (World.block_lt_of_cell? w _ hx257_0)).trans hx257_0
                          replace hx257_1 := (HB.out.cell (World.block_lt_of_cell? w _ hx257_1)).trans hx257_1
                          replace p257 := eq_true p257
                          replace q257 := eq_true q257
                          try go_wp2_with (first | ((with_reducible refine gate_dst (N := 16) rfl ?_); refine box_event ?hg (N := 16) ?hd (cs := #[.int .u32 0, .int .i64 0]) (t := 39) ?hr ?_; (case hd => rfl); (case hg => rfl); (case hr => first | (go_simp; done) | (go_simp; rfl)); intro gb258 hg w62 hbox hb; have n0_ := Aside0.mk (Kd.V_below (Kd.V_elderB (vT_ HO_233000.out) gb258 (Nat.le_of_eq hg.symm)) hb); have n1_ := Aside0.mk (Kd.V_below (Kd.V_elderB (vT_ HO_233001.out) gb258 (Nat.le_of_eq hg.symm)) hb); have n2_ := Aside0.mk (Kd.V_below (Kd.V_elderB (vT_ HO_233003.out) gb258 (Nat.le_of_eq hg.symm)) hb); have n3_ := Aside0.mk (blk_below (g := gb228) (o := .cells #[.slice A0_0 l0_0.length c0_0, .slice A0_1 l0_1.length c0_1, .int .u64 a0_2, .slice (some ad257) l0_3.length c0_3] 29 (0, 0)) (bT_ BK228.out) hb); have n4_ := Aside0.mk (blk_below (g := gb232) (o := .cells #[u233000, u233001, .int .u64 x233002_20, u233003] 29 (0, 0)) (bT_ BK232.out) hb); have n5_ := Aside0.mk (below_step beT_ hb); have n6_ := Aside0.mk (hbox); have n7_ := Aside0.mk ((by rw [hg]; exact (below_size beT_) : w.heap.size ≤ gb258)); have n8_ := Aside0.mk ((by rw [hg]; exact (below_size beT_) : w.heap.size ≤ gb258)); have n9_ := Aside0.mk ((by rw [hg]; exact Nat.ne_of_lt (blk_lt (g := gb228) (o := .cells #[.slice A0_0 l0_0.length c0_0, .slice A0_1 l0_1.length c0_1, .int .u64 a0_2, .slice (some ad257) l0_3.length c0_3] 29 (0, 0)) (bT_ BK228.out)) : gb228 ≠ gb258)); have n10_ := Aside0.mk ((by rw [hg]; exact Nat.ne_of_gt (blk_lt (g := gb228) (o := .cells #[.slice A0_0 l0_0.length c0_0, .slice A0_1 l0_1.length c0_1, .int .u64 a0_2, .slice (some ad257) l0_3.length c0_3] 29 (0, 0)) (bT_ BK228.out)) : gb258 ≠ gb228)); have n11_ := Aside0.mk ((by rw [hg]; exact Nat.ne_of_lt (blk_lt (g := gb232) (o := .cells #[u233000, u233001, .int .u64 x233002_20, u233003] 29 (0, 0)) (bT_ BK232.out)) : gb232 ≠ gb258)); have n12_ := Aside0.mk ((by rw [hg]; exact Nat.ne_of_gt (blk_lt (g := gb232) (o := .cells #[u233000, u233001, .int .u64 x233002_20, u233003] 29 (0, 0)) (bT_ BK232.out)) : gb258 ≠ gb232)); clear HO_233000; clear HO_233001; clear HO_233003; clear BK228; clear BK232; clear HB; have HO_233000 := n0_; have HO_233001 := n1_; have HO_233003 := n2_; have BK228 := n3_; have BK232 := n4_; have HB := n5_; have BK258 := n6_; have GW258 := n7_; have GE258 := n8_; have NB228_258 := n9_; have NB258_228 := n10_; have NB232_258 := n11_; have NB258_232 := n12_; clear n0_ n1_ n2_ n3_ n4_ n5_ n6_ n7_ n8_ n9_ n10_ n11_ n12_; clear hb hbox hg; have hnb63 := NB258_228.out; have hnc63 := NB228_258.out; have hnb64 := NB258_232.out; have hnc64 := NB232_258.out; have hcz65_0 : w62.cell? ⟨gb258, 0, none⟩ = some (.int .u32 0) := (blk_cell BK258.out 0).trans rfl; have hcz65_1 : w62.cell? ⟨gb258, 1, none⟩ = some (.int .i64 0) := (blk_cell BK258.out 1).trans rfl; have hfz65_0 := blk_frozen BK258.out 0; have hfz65_1 := blk_frozen BK258.out 1))
                          have n0_ : Aside0 (Kd.V k55 55 ((w62.setCell ⟨gb258, 0, none⟩ (.int .u32 ((rd_T39 l0_3 x55_3).f0))).setCell ⟨gb258, 1, none⟩ (.int .i64 ((rd_T39 l0_3 x55_3).f1))) w.heap.size (fun k_ => k_ ≠ gb228 ∧ k_ ≠ gb232 ∧ k_ ≠ gb258) u233000 x233000_20) := ⟨by (with_reducible repeat (first | apply Kd.V_alloc | apply Kd.V_drewN | apply Kd.V_drew)); exact Kd.V_mono (Kd.V_far (p := ⟨gb258, 1, none⟩) (Kd.V_far (p := ⟨gb258, 0, none⟩) (Kd.V_mono HO_233000.out (fun k_ hk => (⟨hk, by first | exact hk.2 | exact hk.2.1 | exact hk.2.2⟩ : _ ∧ k_ ≠ gb258))) (fun _ hk => hk.2) (.int .u32 ((rd_T39 l0_3 x55_3).f0))) (fun _ hk => hk.2) (.int .i64 ((rd_T39 l0_3 x55_3).f1))) (fun _ hk => ⟨hk.1.1.1, ⟨hk.1.1.2, hk.1.2⟩⟩)⟩
                          have n1_ : Aside0 (Kd.V k60 60 ((w62.setCell ⟨gb258, 0, none⟩ (.int .u32 ((rd_T39 l0_3 x55_3).f0))).setCell ⟨gb258, 1, none⟩ (.int .i64 ((rd_T39 l0_3 x55_3).f1))) w.heap.size (fun k_ => k_ ≠ gb228 ∧ k_ ≠ gb232 ∧ k_ ≠ gb258) u233001 x233001_20) := ⟨by (with_reducible repeat (first | apply Kd.V_alloc | apply Kd.V_drewN | apply Kd.V_drew)); exact Kd.V_mono (Kd.V_far (p := ⟨gb258, 1, none⟩) (Kd.V_far (p := ⟨gb258, 0, none⟩) (Kd.V_mono HO_233001.out (fun k_ hk => (⟨hk, by first | exact hk.2 | exact hk.2.1 | exact hk.2.2⟩ : _ ∧ k_ ≠ gb258))) (fun _ hk => hk.2) (.int .u32 ((rd_T39 l0_3 x55_3).f0))) (fun _ hk => hk.2) (.int .i64 ((rd_T39 l0_3 x55_3).f1))) (fun _ hk => ⟨hk.1.1.1, ⟨hk.1.1.2, hk.1.2⟩⟩)⟩
                          have n2_ : Aside0 (Kd.V k39 39 ((w62.setCell ⟨gb258, 0, none⟩ (.int .u32 ((rd_T39 l0_3 x55_3).f0))).setCell ⟨gb258, 1, none⟩ (.int .i64 ((rd_T39 l0_3 x55_3).f1))) w.heap.size (fun k_ => k_ ≠ gb228 ∧ k_ ≠ gb232 ∧ k_ ≠ gb258) u233003 x233003_20) := ⟨by (with_reducible repeat (first | apply Kd.V_alloc | apply Kd.V_drewN | apply Kd.V_drew)); exact Kd.V_mono (Kd.V_far (p := ⟨gb258, 1, none⟩) (Kd.V_far (p := ⟨gb258, 0, none⟩) (Kd.V_mono HO_233003.out (fun k_ hk => (⟨hk, by first | exact hk.2 | exact hk.2.1 | exact hk.2.2⟩ : _ ∧ k_ ≠ gb258))) (fun _ hk => hk.2) (.int .u32 ((rd_T39 l0_3 x55_3).f0))) (fun _ hk => hk.2) (.int .i64 ((rd_T39 l0_3 x55_3).f1))) (fun _ hk => ⟨hk.1.1.1, ⟨hk.1.1.2, hk.1.2⟩⟩)⟩
                          have n3_ : Aside0 (((w62.setCell ⟨gb258, 0, none⟩ (.int .u32 ((rd_T39 l0_3 x55_3).f0))).setCell ⟨gb258, 1, none⟩ (.int .i64 ((rd_T39 l0_3 x55_3).f1))).heap[gb228]? = some (.cells #[.slice A0_0 l0_0.length c0_0, .slice A0_1 l0_1.length c0_1, .int .u64 a0_2, .slice (some ad257) l0_3.length c0_3] 29 (0, 0))) := ⟨by (with_reducible repeat (first | refine blk_drewN ?_ _ | refine blk_drew ?_ | refine blk_alloc ?_ _)); refine blk_far ?_ NB228_258.out _; (with_reducible repeat (first | refine blk_drewN ?_ _ | refine blk_drew ?_ | refine blk_alloc ?_ _)); refine blk_far ?_ NB228_258.out _; (with_reducible repeat (first | refine blk_drewN ?_ _ | refine blk_drew ?_ | refine blk_alloc ?_ _)); exact BK228.out⟩
                          have n4_ : Aside0 (((w62.setCell ⟨gb258, 0, none⟩ (.int .u32 ((rd_T39 l0_3 x55_3).f0))).setCell ⟨gb258, 1, none⟩ (.int .i64 ((rd_T39 l0_3 x55_3).f1))).heap[gb232]? = some (.cells #[u233000, u233001, .int .u64 x233002_20, u233003] 29 (0, 0))) := ⟨by (with_reducible repeat (first | refine blk_drewN ?_ _ | refine blk_drew ?_ | refine blk_alloc ?_ _)); refine blk_far ?_ NB232_258.out _; (with_reducible repeat (first | refine blk_drewN ?_ _ | refine blk_drew ?_ | refine blk_alloc ?_ _)); refine blk_far ?_ NB232_258.out _; (with_reducible repeat (first | refine blk_drewN ?_ _ | refine blk_drew ?_ | refine blk_alloc ?_ _)); exact BK232.out⟩
                          have n5_ : Aside0 (((w62.setCell ⟨gb258, 0, none⟩ (.int .u32 ((rd_T39 l0_3 x55_3).f0))).setCell ⟨gb258, 1, none⟩ (.int .i64 ((rd_T39 l0_3 x55_3).f1))).heap[gb258]? = some (.cells #[.int .u32 ((rd_T39 l0_3 x55_3).f0), .int .i64 ((rd_T39 l0_3 x55_3).f1)] 39 (0, 0))) := ⟨by (with_reducible repeat (first | refine blk_drewN ?_ _ | refine blk_drew ?_ | refine blk_alloc ?_ _)); refine blk_put (cs := #[.int .u32 ((rd_T39 l0_3 x55_3).f0), .int .i64 0]) ?_ 1 _ rfl; (with_reducible repeat (first | refine blk_drewN ?_ _ | refine blk_drew ?_ | refine blk_alloc ?_ _)); refine blk_put (cs := #[.int .u32 0, .int .i64 0]) ?_ 0 _ rfl; (with_reducible repeat (first | refine blk_drewN ?_ _ | refine blk_drew ?_ | refine blk_alloc ?_ _)); exact BK258.out⟩
                          have n6_ : Aside0 (Below w.heap.size w ((w62.setCell ⟨gb258, 0, none⟩ (.int .u32 ((rd_T39 l0_3 x55_3).f0))).setCell ⟨gb258, 1, none⟩ (.int .i64 ((rd_T39 l0_3 x55_3).f1)))) := ⟨by repeat (first | (with_reducible first | exact HB.out | apply below_alloc | apply pw_below_drewN | apply below_drew1 | refine below_set ?_ GE228.out | refine below_set ?_ GE232.out | refine below_set ?_ GE258.out) | exact HB.out)⟩
                          (try clear HO_233000)
                          (try clear HO_233001)
                          (try clear HO_233003)
                          (try clear BK228)
                          (try clear BK232)
                          (try clear BK258)
                          (try clear HB)
                          generalize ((w62.setCell ⟨gb258, 0, none⟩ (.int .u32 ((rd_T39 l0_3 x55_3).f0))).setCell ⟨gb258, 1, none⟩ (.int .i64 ((rd_T39 l0_3 x55_3).f1))) = w66 at n0_ n1_ n2_ n3_ n4_ n5_ n6_ ⊢
                          have HO_233000 := n0_
                          have HO_233001 := n1_
                          have HO_233003 := n2_
                          have BK228 := n3_
                          have BK232 := n4_
                          have BK258 := n5_
                          have HB := n6_
                          clear n0_ n1_ n2_ n3_ n4_ n5_ n6_
                          have n0_ := Aside0.mk (Kd.V_drew HO_233000.out)
                          have n1_ := Aside0.mk (Kd.V_drew HO_233001.out)
                          have n2_ := Aside0.mk (Kd.V_drew HO_233003.out)
                          have n3_ := Aside0.mk (blk_drew BK228.out)
                          have n4_ := Aside0.mk (blk_drew BK232.out)
                          have n5_ := Aside0.mk (blk_drew BK258.out)
                          have n6_ := Aside0.mk (below_drew1 HB.out)
                          clear HO_233000
                          clear HO_233001
                          clear HO_233003
                          clear BK228
                          clear BK232
                          clear BK258
                          clear HB
                          have HO_233000 := n0_
                          have HO_233001 := n1_
                          have HO_233003 := n2_
                          have BK228 := n3_
                          have BK232 := n4_
                          have BK258 := n5_
                          have HB := n6_
                          clear n0_ n1_ n2_ n3_ n4_ n5_ n6_
                          obtain ⟨Ao68, co68, eo68⟩ := Kd.V_slice HO_233000.out
                          (first | subst eo68 | (injection eo68 with f1_ f2_ f3_; have f4_ := f1_.symm; have f5_ := f3_.symm; clear f1_ f2_ f3_; subst f4_; subst f5_))
                          obtain ⟨Ao69, co69, eo69⟩ := Kd.V_slice HO_233001.out
                          (first | subst eo69 | (injection eo69 with f1_ f2_ f3_; have f4_ := f1_.symm; have f5_ := f3_.symm; clear f1_ f2_ f3_; subst f4_; subst f5_))
                          obtain ⟨Ao70, co70, eo70⟩ := Kd.V_slice HO_233003.out
                          (first | subst eo70 | (injection eo70 with f1_ f2_ f3_; have f4_ := f1_.symm; have f5_ := f3_.symm; clear f1_ f2_ f3_; subst f4_; subst f5_))
                          refine start_ (n := 21) (S := fun w' => w'.cell? ⟨gb258, 0, none⟩ = some (.int .u32 ((rd_T39 l0_3 x55_3).f0)) ∧ w'.cell? ⟨gb258, 1, none⟩ = some (.int .i64 ((rd_T39 l0_3 x55_3).f1)) ∧ w'.cell? ⟨gb232, 0, none⟩ = some (.slice Ao68 x233000_20.length co68) ∧ w'.cell? ⟨gb232, 1, none⟩ = some (.slice Ao69 x233001_20.length co69) ∧ w'.cell? ⟨gb232, 2, none⟩ = some (.int .u64 x233002_20) ∧ w'.cell? ⟨gb232, 3, none⟩ = some (.slice Ao70 x233003_20.length co70)) (ds := []) #[false, false, false, false, false, false, false, false, false, false, false, false, false, false, false, false, false, false, false, false, false] (by kernel_rfl) rfl rfl ⟨(blk_cell BK258.out 0).trans rfl, (blk_cell BK258.out 1).trans rfl, (blk_cell BK232.out 0).trans rfl, (blk_cell BK232.out 1).trans rfl, (blk_cell BK232.out 2).trans rfl, (blk_cell BK232.out 3).trans rfl⟩ (fun hHeld => ?_); refine with_tabW ferrylaw04_GuestParts.tab13 ferrylaw04_GuestParts.bits13 (fun HT_ HW_ => ?_)
                          generalize w66.drew = w67 at HO_233000 HO_233001 HO_233003 BK228 BK232 BK258 HB hHeld ⊢
                          refine pS_ 0 59 (mb_ 21 1) ?_
                          refine pS_ 2 61 (mb_ 21 5) ?_
                          refine t6S_ 1 60 (mb_ 21 7) ?_
                          refine pS_ 3 62 (mb_ 21 15) ?_
                          refine pS_ 4 63 (mb_ 21 31) ?_
                          refine pS_ 5 64 (mb_ 21 63) ?_
                          refine pS_ 7 66 (mb_ 21 191) ?_
                          refine pS_ 9 68 (mb_ 21 703) ?_
                          refine t6S_ 6 65 (mb_ 21 767) ?_
                          refine pS_ 8 67 (mb_ 21 1023) ?_
                          refine pS_ 10 69 (mb_ 21 2047) ?_
                          refine pS_ 11 70 (mb_ 21 4095) ?_
                          refine pS_ 12 71 (mb_ 21 8191) ?_
                          refine pS_ 14 73 (mb_ 21 24575) ?_
                          refine pS_ 17 76 (mb_ 21 155647) ?_
                          refine t6S_ 13 72 (mb_ 21 163839) ?_
                          refine t6S_ 15 74 (mb_ 21 196607) ?_
                          refine t6S_ 18 77 (mb_ 21 458751) ?_
                          refine one_ (i := 16) (N := some 75) (mb_ 21 524287) rfl rfl (one_of HT_.out (by kernel_rfl)) (by decide) (fun K hK => ?_)
                          refine goes_ Try.func14 (by kernel_rfl) rfl #[.agg #[.slice Ao68 x233000_20.length co68, .slice Ao69 x233001_20.length co69, .int .u64 x233002_20, .slice Ao70 x233003_20.length co70], .int .u32 ((rd_T39 l0_3 x55_3).f0)] (by rfl) rfl rfl (by (try simp only [List.map_toArray, List.map_cons, List.map_nil]); first | done | rfl | (simp only [List.length_drop, List.length_take]; rfl)) ?_
                          with_reducible refine (ferryref04_Prot.calls k3 _ _ x233000_20 _ _ x233001_20 x233002_20 _ _ x233003_20 ((rd_T39 l0_3 x55_3).f0) t260 _ ?side1 ?side2 ?side3 ?side4 ?side5 ?side6 A60.out).mono ?_
                          (case side1 => repeat (first | exact (Kd.V_reads' HO_233000.out).2.2 | (with_reducible refine Kd.C_alloc ?_ _) | (with_reducible refine Kd.C_drewN ?_ _) | (with_reducible refine Kd.C_drew ?_)))
                          (case side2 => exact (Kd.V_reads' HO_233000.out).2.1)
                          (case side3 => repeat (first | exact (Kd.V_reads' HO_233001.out).2.2 | (with_reducible refine Kd.C_alloc ?_ _) | (with_reducible refine Kd.C_drewN ?_ _) | (with_reducible refine Kd.C_drew ?_)))
                          (case side4 => exact (Kd.V_reads' HO_233001.out).2.1)
                          (case side5 => repeat (first | exact (Kd.V_reads' HO_233003.out).2.2 | (with_reducible refine Kd.C_alloc ?_ _) | (with_reducible refine Kd.C_drewN ?_ _) | (with_reducible refine Kd.C_drew ?_)))
                          (case side6 => exact (Kd.V_reads' HO_233003.out).2.1)
                          rintro e w71 ⟨rfl, hb⟩
                          refine ⟨_, rfl, ?_⟩
                          have n0_ := Aside0.mk (Kd.V_below (vT_ HO_233000.out) hb)
                          have n1_ := Aside0.mk (Kd.V_below (vT_ HO_233001.out) hb)
                          have n2_ := Aside0.mk (Kd.V_below (vT_ HO_233003.out) hb)
                          have n3_ := Aside0.mk (blk_below (g := gb228) (o := .cells #[.slice A0_0 l0_0.length c0_0, .slice A0_1 l0_1.length c0_1, .int .u64 a0_2, .slice (some ad257) l0_3.length c0_3] 29 (0, 0)) (bT_ BK228.out) hb)
                          have n4_ := Aside0.mk (blk_below (g := gb232) (o := .cells #[.slice Ao68 x233000_20.length co68, .slice Ao69 x233001_20.length co69, .int .u64 x233002_20, .slice Ao70 x233003_20.length co70] 29 (0, 0)) (bT_ BK232.out) hb)
                          have n5_ := Aside0.mk (blk_below (g := gb258) (o := .cells #[.int .u32 ((rd_T39 l0_3 x55_3).f0), .int .i64 ((rd_T39 l0_3 x55_3).f1)] 39 (0, 0)) (bT_ BK258.out) hb)
                          have n6_ := Aside0.mk (below_step beT_ hb)
                          clear HO_233000
                          clear HO_233001
                          clear HO_233003
                          clear BK228
                          clear BK232
                          clear BK258
                          clear HB
                          have HO_233000 := n0_
                          have HO_233001 := n1_
                          have HO_233003 := n2_
                          have BK228 := n3_
                          have BK232 := n4_
                          have BK258 := n5_
                          have HB := n6_
                          clear n0_ n1_ n2_ n3_ n4_ n5_ n6_
                          (try clear hb)
                          (try clear hb2)
                          (try clear hk)
                          (try clear hi)
                          refine hK.out _ _ ⟨(blk_cell BK258.out 0).trans rfl, (blk_cell BK258.out 1).trans rfl, (blk_cell BK232.out 0).trans rfl, (blk_cell BK232.out 1).trans rfl, (blk_cell BK232.out 2).trans rfl, (blk_cell BK232.out 3).trans rfl⟩ (fun hHeld => ?_)
                          clear hK K
                          refine nS_ ?_
                          refine pS_ 19 78 (mb_ 21 1048575) ?_
                          refine pS_ 20 79 (mb_ 21 2097151) ?_
                          refine done_ (done_of HT_.out (by kernel_rfl)) ?_
                          try go_wp2
                          go_roundg k3
                          case measure => have := HJ6.out; have := HJ20.out; have := HK3.out; omega
                          case rel => exact ⟨(wrap64 (x55_3 + 1)), (by first | rfl | (simp; done) | (simp [*]; done)), H', ⟨by have := HJ6.out; have := HJ20.out; have := HK3.out; omega⟩, ⟨by (with_reducible repeat (first | apply Kd.V_alloc | apply Kd.V_drewN | apply Kd.V_drew)); exact Kd.V_mono HO_233000.out (fun _ hk => ⟨hk.1, hk.2.1⟩)⟩, ⟨by (with_reducible repeat (first | apply Kd.V_alloc | apply Kd.V_drewN | apply Kd.V_drew)); exact Kd.V_mono HO_233001.out (fun _ hk => ⟨hk.1, hk.2.1⟩)⟩, ⟨by (with_reducible repeat (first | apply Kd.V_alloc | apply Kd.V_drewN | apply Kd.V_drew)); exact Kd.V_mono HO_233003.out (fun _ hk => ⟨hk.1, hk.2.1⟩)⟩, ⟨by (with_reducible repeat (first | refine blk_drewN ?_ _ | refine blk_drew ?_ | refine blk_alloc ?_ _)); exact BK228.out⟩, ⟨by (with_reducible repeat (first | refine blk_drewN ?_ _ | refine blk_drew ?_ | refine blk_alloc ?_ _)); exact BK232.out⟩, ⟨by repeat (first | (with_reducible first | exact HB.out | apply below_alloc | apply pw_below_drewN | apply below_drew1 | refine below_set ?_ GE228.out | refine below_set ?_ GE232.out | refine below_set ?_ GE258.out) | exact HB.out)⟩⟩
                        rw [if_neg c61] at H
                        exact absurd H (by simp)
                      rw [if_neg c59] at H
                      have c59b0 : decide (a2 ≤ ((((rd_T39 l0_3 x55_3).f0) - a1) % 4294967296)) = false := decide_eq_false c59
                      (try (have c59bs0 := c59b0; simp only [Int.add_emod_emod, Int.emod_add_emod, Int.sub_emod_emod, Int.emod_sub_emod] at c59bs0))
                      clear c59
                      have H' := Aside0.mk H
                      clear H
                      have p257 : 0 ≤ (x55_3 : Int) := of_decide_eq_true (by first | (with_reducible assumption) | assumption)
                      have q257 : x55_3 < (l0_3.length : Int) := of_decide_eq_true (by first | (with_reducible assumption) | assumption)
                      obtain ⟨ad257, e257, hx257_0, hx257_1⟩ := at_T39 HR0_3.out x55_3 p257 q257
                      cases e257
                      replace hx257_0 := (HB.out.cell (World.block_lt_of_cell? w _ hx257_0)).trans hx257_0
                      replace hx257_1 := (HB.out.cell (World.block_lt_of_cell? w _ hx257_1)).trans hx257_1
                      replace p257 := eq_true p257
                      replace q257 := eq_true q257
                      try go_wp2_with (first | ((with_reducible refine gate_dst (N := 16) rfl ?_); refine box_event ?hg (N := 16) ?hd (cs := #[.int .u32 0, .int .i64 0]) (t := 39) ?hr ?_; (case hd => rfl); (case hg => rfl); (case hr => first | (go_simp; done) | (go_simp; rfl)); intro gb258 hg w72 hbox hb; have n0_ := Aside0.mk (Kd.V_below (Kd.V_elderB (vT_ HO_233000.out) gb258 (Nat.le_of_eq hg.symm)) hb); have n1_ := Aside0.mk (Kd.V_below (Kd.V_elderB (vT_ HO_233001.out) gb258 (Nat.le_of_eq hg.symm)) hb); have n2_ := Aside0.mk (Kd.V_below (Kd.V_elderB (vT_ HO_233003.out) gb258 (Nat.le_of_eq hg.symm)) hb); have n3_ := Aside0.mk (blk_below (g := gb228) (o := .cells #[.slice A0_0 l0_0.length c0_0, .slice A0_1 l0_1.length c0_1, .int .u64 a0_2, .slice (some ad257) l0_3.length c0_3] 29 (0, 0)) (bT_ BK228.out) hb); have n4_ := Aside0.mk (blk_below (g := gb232) (o := .cells #[u233000, u233001, .int .u64 x233002_20, u233003] 29 (0, 0)) (bT_ BK232.out) hb); have n5_ := Aside0.mk (below_step beT_ hb); have n6_ := Aside0.mk (hbox); have n7_ := Aside0.mk ((by rw [hg]; exact (below_size beT_) : w.heap.size ≤ gb258)); have n8_ := Aside0.mk ((by rw [hg]; exact (below_size beT_) : w.heap.size ≤ gb258)); have n9_ := Aside0.mk ((by rw [hg]; exact Nat.ne_of_lt (blk_lt (g := gb228) (o := .cells #[.slice A0_0 l0_0.length c0_0, .slice A0_1 l0_1.length c0_1, .int .u64 a0_2, .slice (some ad257) l0_3.length c0_3] 29 (0, 0)) (bT_ BK228.out)) : gb228 ≠ gb258)); have n10_ := Aside0.mk ((by rw [hg]; exact Nat.ne_of_gt (blk_lt (g := gb228) (o := .cells #[.slice A0_0 l0_0.length c0_0, .slice A0_1 l0_1.length c0_1, .int .u64 a0_2, .slice (some ad257) l0_3.length c0_3] 29 (0, 0)) (bT_ BK228.out)) : gb258 ≠ gb228)); have n11_ := Aside0.mk ((by rw [hg]; exact Nat.ne_of_lt (blk_lt (g := gb232) (o := .cells #[u233000, u233001, .int .u64 x233002_20, u233003] 29 (0, 0)) (bT_ BK232.out)) : gb232 ≠ gb258)); have n12_ := Aside0.mk ((by rw [hg]; exact Nat.ne_of_gt (blk_lt (g := gb232) (o := .cells #[u233000, u233001, .int .u64 x233002_20, u233003] 29 (0, 0)) (bT_ BK232.out)) : gb258 ≠ gb232)); clear HO_233000; clear HO_233001; clear HO_233003; clear BK228; clear BK232; clear HB; have HO_233000 := n0_; have HO_233001 := n1_; have HO_233003 := n2_; have BK228 := n3_; have BK232 := n4_; have HB := n5_; have BK258 := n6_; have GW258 := n7_; have GE258 := n8_; have NB228_258 := n9_; have NB258_228 := n10_; have NB232_258 := n11_; have NB258_232 := n12_; clear n0_ n1_ n2_ n3_ n4_ n5_ n6_ n7_ n8_ n9_ n10_ n11_ n12_; clear hb hbox hg; have hnb73 := NB258_228.out; have hnc73 := NB228_258.out; have hnb74 := NB258_232.out; have hnc74 := NB232_258.out; have hcz75_0 : w72.cell? ⟨gb258, 0, none⟩ = some (.int .u32 0) := (blk_cell BK258.out 0).trans rfl; have hcz75_1 : w72.cell? ⟨gb258, 1, none⟩ = some (.int .i64 0) := (blk_cell BK258.out 1).trans rfl; have hfz75_0 := blk_frozen BK258.out 0; have hfz75_1 := blk_frozen BK258.out 1))
                      have n0_ : Aside0 (Kd.V k55 55 ((w72.setCell ⟨gb258, 0, none⟩ (.int .u32 ((rd_T39 l0_3 x55_3).f0))).setCell ⟨gb258, 1, none⟩ (.int .i64 ((rd_T39 l0_3 x55_3).f1))) w.heap.size (fun k_ => k_ ≠ gb228 ∧ k_ ≠ gb232 ∧ k_ ≠ gb258) u233000 x233000_20) := ⟨by (with_reducible repeat (first | apply Kd.V_alloc | apply Kd.V_drewN | apply Kd.V_drew)); exact Kd.V_mono (Kd.V_far (p := ⟨gb258, 1, none⟩) (Kd.V_far (p := ⟨gb258, 0, none⟩) (Kd.V_mono HO_233000.out (fun k_ hk => (⟨hk, by first | exact hk.2 | exact hk.2.1 | exact hk.2.2⟩ : _ ∧ k_ ≠ gb258))) (fun _ hk => hk.2) (.int .u32 ((rd_T39 l0_3 x55_3).f0))) (fun _ hk => hk.2) (.int .i64 ((rd_T39 l0_3 x55_3).f1))) (fun _ hk => ⟨hk.1.1.1, ⟨hk.1.1.2, hk.1.2⟩⟩)⟩
                      have n1_ : Aside0 (Kd.V k60 60 ((w72.setCell ⟨gb258, 0, none⟩ (.int .u32 ((rd_T39 l0_3 x55_3).f0))).setCell ⟨gb258, 1, none⟩ (.int .i64 ((rd_T39 l0_3 x55_3).f1))) w.heap.size (fun k_ => k_ ≠ gb228 ∧ k_ ≠ gb232 ∧ k_ ≠ gb258) u233001 x233001_20) := ⟨by (with_reducible repeat (first | apply Kd.V_alloc | apply Kd.V_drewN | apply Kd.V_drew)); exact Kd.V_mono (Kd.V_far (p := ⟨gb258, 1, none⟩) (Kd.V_far (p := ⟨gb258, 0, none⟩) (Kd.V_mono HO_233001.out (fun k_ hk => (⟨hk, by first | exact hk.2 | exact hk.2.1 | exact hk.2.2⟩ : _ ∧ k_ ≠ gb258))) (fun _ hk => hk.2) (.int .u32 ((rd_T39 l0_3 x55_3).f0))) (fun _ hk => hk.2) (.int .i64 ((rd_T39 l0_3 x55_3).f1))) (fun _ hk => ⟨hk.1.1.1, ⟨hk.1.1.2, hk.1.2⟩⟩)⟩
                      have n2_ : Aside0 (Kd.V k39 39 ((w72.setCell ⟨gb258, 0, none⟩ (.int .u32 ((rd_T39 l0_3 x55_3).f0))).setCell ⟨gb258, 1, none⟩ (.int .i64 ((rd_T39 l0_3 x55_3).f1))) w.heap.size (fun k_ => k_ ≠ gb228 ∧ k_ ≠ gb232 ∧ k_ ≠ gb258) u233003 x233003_20) := ⟨by (with_reducible repeat (first | apply Kd.V_alloc | apply Kd.V_drewN | apply Kd.V_drew)); exact Kd.V_mono (Kd.V_far (p := ⟨gb258, 1, none⟩) (Kd.V_far (p := ⟨gb258, 0, none⟩) (Kd.V_mono HO_233003.out (fun k_ hk => (⟨hk, by first | exact hk.2 | exact hk.2.1 | exact hk.2.2⟩ : _ ∧ k_ ≠ gb258))) (fun _ hk => hk.2) (.int .u32 ((rd_T39 l0_3 x55_3).f0))) (fun _ hk => hk.2) (.int .i64 ((rd_T39 l0_3 x55_3).f1))) (fun _ hk => ⟨hk.1.1.1, ⟨hk.1.1.2, hk.1.2⟩⟩)⟩
                      have n3_ : Aside0 (((w72.setCell ⟨gb258, 0, none⟩ (.int .u32 ((rd_T39 l0_3 x55_3).f0))).setCell ⟨gb258, 1, none⟩ (.int .i64 ((rd_T39 l0_3 x55_3).f1))).heap[gb228]? = some (.cells #[.slice A0_0 l0_0.length c0_0, .slice A0_1 l0_1.length c0_1, .int .u64 a0_2, .slice (some ad257) l0_3.length c0_3] 29 (0, 0))) := ⟨by (with_reducible repeat (first | refine blk_drewN ?_ _ | refine blk_drew ?_ | refine blk_alloc ?_ _)); refine blk_far ?_ NB228_258.out _; (with_reducible repeat (first | refine blk_drewN ?_ _ | refine blk_drew ?_ | refine blk_alloc ?_ _)); refine blk_far ?_ NB228_258.out _; (with_reducible repeat (first | refine blk_drewN ?_ _ | refine blk_drew ?_ | refine blk_alloc ?_ _)); exact BK228.out⟩
                      have n4_ : Aside0 (((w72.setCell ⟨gb258, 0, none⟩ (.int .u32 ((rd_T39 l0_3 x55_3).f0))).setCell ⟨gb258, 1, none⟩ (.int .i64 ((rd_T39 l0_3 x55_3).f1))).heap[gb232]? = some (.cells #[u233000, u233001, .int .u64 x233002_20, u233003] 29 (0, 0))) := ⟨by (with_reducible repeat (first | refine blk_drewN ?_ _ | refine blk_drew ?_ | refine blk_alloc ?_ _)); refine blk_far ?_ NB232_258.out _; (with_reducible repeat (first | refine blk_drewN ?_ _ | refine blk_drew ?_ | refine blk_alloc ?_ _)); refine blk_far ?_ NB232_258.out _; (with_reducible repeat (first | refine blk_drewN ?_ _ | refine blk_drew ?_ | refine blk_alloc ?_ _)); exact BK232.out⟩
                      have n5_ : Aside0 (((w72.setCell ⟨gb258, 0, none⟩ (.int .u32 ((rd_T39 l0_3 x55_3).f0))).setCell ⟨gb258, 1, none⟩ (.int .i64 ((rd_T39 l0_3 x55_3).f1))).heap[gb258]? = some (.cells #[.int .u32 ((rd_T39 l0_3 x55_3).f0), .int .i64 ((rd_T39 l0_3 x55_3).f1)] 39 (0, 0))) := ⟨by (with_reducible repeat (first | refine blk_drewN ?_ _ | refine blk_drew ?_ | refine blk_alloc ?_ _)); refine blk_put (cs := #[.int .u32 ((rd_T39 l0_3 x55_3).f0), .int .i64 0]) ?_ 1 _ rfl; (with_reducible repeat (first | refine blk_drewN ?_ _ | refine blk_drew ?_ | refine blk_alloc ?_ _)); refine blk_put (cs := #[.int .u32 0, .int .i64 0]) ?_ 0 _ rfl; (with_reducible repeat (first | refine blk_drewN ?_ _ | refine blk_drew ?_ | refine blk_alloc ?_ _)); exact BK258.out⟩
                      have n6_ : Aside0 (Below w.heap.size w ((w72.setCell ⟨gb258, 0, none⟩ (.int .u32 ((rd_T39 l0_3 x55_3).f0))).setCell ⟨gb258, 1, none⟩ (.int .i64 ((rd_T39 l0_3 x55_3).f1)))) := ⟨by repeat (first | (with_reducible first | exact HB.out | apply below_alloc | apply pw_below_drewN | apply below_drew1 | refine below_set ?_ GE228.out | refine below_set ?_ GE232.out | refine below_set ?_ GE258.out) | exact HB.out)⟩
                      (try clear HO_233000)
                      (try clear HO_233001)
                      (try clear HO_233003)
                      (try clear BK228)
                      (try clear BK232)
                      (try clear BK258)
                      (try clear HB)
                      generalize ((w72.setCell ⟨gb258, 0, none⟩ (.int .u32 ((rd_T39 l0_3 x55_3).f0))).setCell ⟨gb258, 1, none⟩ (.int .i64 ((rd_T39 l0_3 x55_3).f1))) = w76 at n0_ n1_ n2_ n3_ n4_ n5_ n6_ ⊢
                      have HO_233000 := n0_
                      have HO_233001 := n1_
                      have HO_233003 := n2_
                      have BK228 := n3_
                      have BK232 := n4_
                      have BK258 := n5_
                      have HB := n6_
                      clear n0_ n1_ n2_ n3_ n4_ n5_ n6_
                      have n0_ := Aside0.mk (Kd.V_drew HO_233000.out)
                      have n1_ := Aside0.mk (Kd.V_drew HO_233001.out)
                      have n2_ := Aside0.mk (Kd.V_drew HO_233003.out)
                      have n3_ := Aside0.mk (blk_drew BK228.out)
                      have n4_ := Aside0.mk (blk_drew BK232.out)
                      have n5_ := Aside0.mk (blk_drew BK258.out)
                      have n6_ := Aside0.mk (below_drew1 HB.out)
                      clear HO_233000
                      clear HO_233001
                      clear HO_233003
                      clear BK228
                      clear BK232
                      clear BK258
                      clear HB
                      have HO_233000 := n0_
                      have HO_233001 := n1_
                      have HO_233003 := n2_
                      have BK228 := n3_
                      have BK232 := n4_
                      have BK258 := n5_
                      have HB := n6_
                      clear n0_ n1_ n2_ n3_ n4_ n5_ n6_
                      refine start_ (n := 21) (S := fun w' => w'.cell? ⟨gb258, 0, none⟩ = some (.int .u32 ((rd_T39 l0_3 x55_3).f0)) ∧ w'.cell? ⟨gb258, 1, none⟩ = some (.int .i64 ((rd_T39 l0_3 x55_3).f1))) (ds := []) #[false, false, false, false, false, false, false, false, false, false, false, false, false, false, false, false, false, false, false, false, false] (by kernel_rfl) rfl rfl ⟨(blk_cell BK258.out 0).trans rfl, (blk_cell BK258.out 1).trans rfl⟩ (fun hHeld => ?_); refine with_tabW ferrylaw04_GuestParts.tab13 ferrylaw04_GuestParts.bits13 (fun HT_ HW_ => ?_)
                      generalize w76.drew = w77 at HO_233000 HO_233001 HO_233003 BK228 BK232 BK258 HB hHeld ⊢
                      refine pS_ 0 59 (mb_ 21 1) ?_
                      refine pS_ 2 61 (mb_ 21 5) ?_
                      refine t2S_ 1 60 (mb_ 21 7) ?_
                      refine pS_ 3 62 (mb_ 21 15) ?_
                      refine pS_ 4 63 (mb_ 21 31) ?_
                      refine pS_ 5 64 (mb_ 21 63) ?_
                      refine pS_ 7 66 (mb_ 21 191) ?_
                      refine pS_ 9 68 (mb_ 21 703) ?_
                      refine t2S_ 6 65 (mb_ 21 767) ?_
                      refine pS_ 8 67 (mb_ 21 1023) ?_
                      refine pS_ 10 69 (mb_ 21 2047) ?_
                      refine pS_ 11 70 (mb_ 21 4095) ?_
                      refine pS_ 12 71 (mb_ 21 8191) ?_
                      refine uS_ 13 72 (mb_ 21 16383) ?_
                      refine uS_ 14 73 (mb_ 21 32767) ?_
                      refine uS_ 15 74 (mb_ 21 65535) ?_
                      refine uS_ 16 75 (mb_ 21 131071) ?_
                      refine uS_ 17 76 (mb_ 21 262143) ?_
                      refine uS_ 18 77 (mb_ 21 524287) ?_
                      refine uS_ 19 78 (mb_ 21 1048575) ?_
                      refine pS_ 20 79 (mb_ 21 2097151) ?_
                      refine done_ (done_of HT_.out (by kernel_rfl)) ?_
                      try go_wp2
                      go_roundg k3
                      case measure => have := HJ6.out; have := HJ20.out; have := HK3.out; omega
                      case rel => exact ⟨(wrap64 (x55_3 + 1)), (by first | rfl | (simp; done) | (simp [*]; done)), H', ⟨by have := HJ6.out; have := HJ20.out; have := HK3.out; omega⟩, ⟨by (with_reducible repeat (first | apply Kd.V_alloc | apply Kd.V_drewN | apply Kd.V_drew)); exact Kd.V_mono HO_233000.out (fun _ hk => ⟨hk.1, hk.2.1⟩)⟩, ⟨by (with_reducible repeat (first | apply Kd.V_alloc | apply Kd.V_drewN | apply Kd.V_drew)); exact Kd.V_mono HO_233001.out (fun _ hk => ⟨hk.1, hk.2.1⟩)⟩, ⟨by (with_reducible repeat (first | apply Kd.V_alloc | apply Kd.V_drewN | apply Kd.V_drew)); exact Kd.V_mono HO_233003.out (fun _ hk => ⟨hk.1, hk.2.1⟩)⟩, ⟨by (with_reducible repeat (first | refine blk_drewN ?_ _ | refine blk_drew ?_ | refine blk_alloc ?_ _)); exact BK228.out⟩, ⟨by (with_reducible repeat (first | refine blk_drewN ?_ _ | refine blk_drew ?_ | refine blk_alloc ?_ _)); exact BK232.out⟩, ⟨by repeat (first | (with_reducible first | exact HB.out | apply below_alloc | apply pw_below_drewN | apply below_drew1 | refine below_set ?_ GE228.out | refine below_set ?_ GE232.out | refine below_set ?_ GE258.out) | exact HB.out)⟩⟩
                    rw [if_neg c45] at H
                    exact absurd H (by simp)
                  rw [if_neg c44] at H
                  exact absurd H (by simp)
                rw [if_neg c43] at H
                have c43b0 : decide (x55_3 < (l0_3.length : Int)) = false := decide_eq_false c43
                clear c43
                replace H := Option.bind_eq_some_iff.mp H
                obtain ⟨t261, A780, H⟩ := H
                replace H : (if ((Int.tdiv a5 4096) % 4294967296) ≥ a1 then (ferrylaw04_GuestParts.j3 k3 a3 a4 ((Int.tdiv a5 4096) % 4294967296) t261 (decide (((((Int.tdiv a5 4096) % 4294967296) - a1) % 4294967296) < a2)) l0_0 l0_1 a0_2 l0_3 x233000_20 x233001_20 x233002_20 x233003_20) else (ferrylaw04_GuestParts.j3 k3 a3 a4 ((Int.tdiv a5 4096) % 4294967296) t261 false l0_0 l0_1 a0_2 l0_3 x233000_20 x233001_20 x233002_20 x233003_20)) = some r := H
                have A78 := Aside0.mk A780
                clear A780
                have HC79 := Aside0.mk H
                clear H
                have hnb80 := NB228_232.out
                have hnc80 := NB232_228.out
                have hcz81_0 : wr.cell? ⟨gb228, 0, none⟩ = some (.slice A0_0 l0_0.length c0_0) := (blk_cell BK228.out 0).trans rfl
                have hcz81_1 : wr.cell? ⟨gb228, 1, none⟩ = some (.slice A0_1 l0_1.length c0_1) := (blk_cell BK228.out 1).trans rfl
                have hcz81_2 : wr.cell? ⟨gb228, 2, none⟩ = some (.int .u64 a0_2) := (blk_cell BK228.out 2).trans rfl
                have hcz81_3 : wr.cell? ⟨gb228, 3, none⟩ = some (.slice A0_3 l0_3.length c0_3) := (blk_cell BK228.out 3).trans rfl
                have hfz81_0 := blk_frozen BK228.out 0
                have hfz81_1 := blk_frozen BK228.out 1
                have hfz81_2 := blk_frozen BK228.out 2
                have hfz81_3 := blk_frozen BK228.out 3
                go_upto_region 18 with (first | ((with_reducible refine gate_callee (f := 15) rfl ?_); refine goesL_ (some 85) rfl rfl Try.func15 (by kernel_rfl) rfl #[.agg #[.slice A0_0 l0_0.length c0_0, .slice A0_1 l0_1.length c0_1, .int .u64 a0_2, .slice A0_3 l0_3.length c0_3], .int .u32 a5] rfl (by (try simp only [List.map_toArray, List.map_cons, List.map_nil]); first | done | rfl | (simp only [List.length_drop, List.length_take]; rfl)) ?_; (with_reducible refine (ferryref04_Place.calls _ _ l0_0 _ _ l0_1 a0_2 _ _ l0_3 a5 t261 _ ?side1 ?side2 ?side3 ?side4 ?side5 ?side6 A78.out).mono ?_); (case side1 => repeat (first | exact (Kd.C_below HR0_0.out HB.out) | (with_reducible refine Kd.C_alloc ?_ _) | (with_reducible refine Kd.C_drewN ?_ _) | (with_reducible refine Kd.C_drew ?_))); (case side2 => exact HC0_0.out); (case side3 => repeat (first | exact (Kd.C_below HR0_1.out HB.out) | (with_reducible refine Kd.C_alloc ?_ _) | (with_reducible refine Kd.C_drewN ?_ _) | (with_reducible refine Kd.C_drew ?_))); (case side4 => exact HC0_1.out); (case side5 => repeat (first | exact (Kd.C_below HR0_3.out HB.out) | (with_reducible refine Kd.C_alloc ?_ _) | (with_reducible refine Kd.C_drewN ?_ _) | (with_reducible refine Kd.C_drew ?_))); (case side6 => exact HC0_3.out); rintro e w82 ⟨rfl, hb⟩; refine ⟨_, rfl, ?_⟩; have n0_ := Aside0.mk (Kd.V_below (vT_ HO_233000.out) hb); have n1_ := Aside0.mk (Kd.V_below (vT_ HO_233001.out) hb); have n2_ := Aside0.mk (Kd.V_below (vT_ HO_233003.out) hb); have n3_ := Aside0.mk (blk_below (g := gb228) (o := .cells #[.slice A0_0 l0_0.length c0_0, .slice A0_1 l0_1.length c0_1, .int .u64 a0_2, .slice A0_3 l0_3.length c0_3] 29 (0, 0)) (bT_ BK228.out) hb); have n4_ := Aside0.mk (blk_below (g := gb232) (o := .cells #[u233000, u233001, .int .u64 x233002_20, u233003] 29 (0, 0)) (bT_ BK232.out) hb); have n5_ := Aside0.mk (below_step beT_ hb); clear HO_233000; clear HO_233001; clear HO_233003; clear BK228; clear BK232; clear HB; have HO_233000 := n0_; have HO_233001 := n1_; have HO_233003 := n2_; have BK228 := n3_; have BK232 := n4_; have HB := n5_; clear n0_ n1_ n2_ n3_ n4_ n5_; (try clear hb); (try clear hb2); (try clear hk); (try clear hi)))
                (try simp only [Act.put, List.setIfInBounds_toArray, List.set_cons_zero, List.set_cons_succ])
                go_cut [95] (fun v95 wc => ∃ (kq : Nat) (x95_78 : Bool), v95 = .bool x95_78 ∧ Aside0 (ferrylaw04_GuestParts.j3 kq a3 a4 ((Int.tdiv a5 4096) % 4294967296) t261 x95_78 l0_0 l0_1 a0_2 l0_3 x233000_20 x233001_20 x233002_20 x233003_20 = some r) ∧ Aside0 (kq ≤ k3) ∧ Aside0 (Kd.V k55 55 wc w.heap.size (fun k_ => k_ ≠ gb228 ∧ k_ ≠ gb232) u233000 x233000_20) ∧ Aside0 (Kd.V k60 60 wc w.heap.size (fun k_ => k_ ≠ gb228 ∧ k_ ≠ gb232) u233001 x233001_20) ∧ Aside0 (Kd.V k39 39 wc w.heap.size (fun k_ => k_ ≠ gb228 ∧ k_ ≠ gb232) u233003 x233003_20) ∧ Aside0 (wc.heap[gb228]? = some (.cells #[(.slice A0_0 l0_0.length c0_0), (.slice A0_1 l0_1.length c0_1), .int .u64 a0_2, (.slice A0_3 l0_3.length c0_3)] 29 (0, 0))) ∧ Aside0 (wc.heap[gb232]? = some (.cells #[u233000, u233001, .int .u64 x233002_20, u233003] 29 (0, 0))) ∧ Aside0 (Below w.heap.size w wc))
                case first =>
                  have H := HC79.out
                  clear HC79
                  by_cases c83 : ((Int.tdiv a5 4096) % 4294967296) ≥ a1
                  · rw [if_pos c83] at H
                    have c83b0 : decide (a1 ≤ ((Int.tdiv a5 4096) % 4294967296)) = true := decide_eq_true c83
                    (try (have c83bs0 := c83b0; simp only [Int.add_emod_emod, Int.emod_add_emod, Int.sub_emod_emod, Int.emod_sub_emod] at c83bs0))
                    clear c83
                    (first | rw [c83b0] | (simp only [i64_w, i32_w]; rw [c83b0]) | skip)
                    have H' := Aside0.mk H
                    clear H
                    go_wp2
                    go_meet
                    case rel => exact ⟨_, (decide (((((Int.tdiv a5 4096) % 4294967296) - a1) % 4294967296) < a2)), (by first | rfl | (simp; done) | (simp [*]; done)), H', ⟨by have := HJ6.out; have := HJ20.out; have := HK3.out; first | omega | exact Nat.le_refl _⟩, ⟨by (with_reducible repeat (first | apply Kd.V_alloc | apply Kd.V_drewN | apply Kd.V_drew)); exact HO_233000.out⟩, ⟨by (with_reducible repeat (first | apply Kd.V_alloc | apply Kd.V_drewN | apply Kd.V_drew)); exact HO_233001.out⟩, ⟨by (with_reducible repeat (first | apply Kd.V_alloc | apply Kd.V_drewN | apply Kd.V_drew)); exact HO_233003.out⟩, ⟨by (with_reducible repeat (first | refine blk_drewN ?_ _ | refine blk_drew ?_ | refine blk_alloc ?_ _)); exact BK228.out⟩, ⟨by (with_reducible repeat (first | refine blk_drewN ?_ _ | refine blk_drew ?_ | refine blk_alloc ?_ _)); exact BK232.out⟩, ⟨by repeat (first | (with_reducible first | exact HB.out | apply below_alloc | apply pw_below_drewN | apply below_drew1 | refine below_set ?_ GE228.out | refine below_set ?_ GE232.out) | exact HB.out)⟩⟩
                  rw [if_neg c83] at H
                  have c83b0 : decide (a1 ≤ ((Int.tdiv a5 4096) % 4294967296)) = false := decide_eq_false c83
                  (try (have c83bs0 := c83b0; simp only [Int.add_emod_emod, Int.emod_add_emod, Int.sub_emod_emod, Int.emod_sub_emod] at c83bs0))
                  clear c83
                  (first | rw [c83b0] | (simp only [i64_w, i32_w]; rw [c83b0]) | skip)
                  have H' := Aside0.mk H
                  clear H
                  go_wp2
                  go_meet
                  case rel => exact ⟨_, (false), (by first | rfl | (simp; done) | (simp [*]; done)), H', ⟨by have := HJ6.out; have := HJ20.out; have := HK3.out; first | omega | exact Nat.le_refl _⟩, ⟨by (with_reducible repeat (first | apply Kd.V_alloc | apply Kd.V_drewN | apply Kd.V_drew)); exact HO_233000.out⟩, ⟨by (with_reducible repeat (first | apply Kd.V_alloc | apply Kd.V_drewN | apply Kd.V_drew)); exact HO_233001.out⟩, ⟨by (with_reducible repeat (first | apply Kd.V_alloc | apply Kd.V_drewN | apply Kd.V_drew)); exact HO_233003.out⟩, ⟨by (with_reducible repeat (first | refine blk_drewN ?_ _ | refine blk_drew ?_ | refine blk_alloc ?_ _)); exact BK228.out⟩, ⟨by (with_reducible repeat (first | refine blk_drewN ?_ _ | refine blk_drew ?_ | refine blk_alloc ?_ _)); exact BK232.out⟩, ⟨by repeat (first | (with_reducible first | exact HB.out | apply below_alloc | apply pw_below_drewN | apply below_drew1 | refine below_set ?_ GE228.out | refine below_set ?_ GE232.out) | exact HB.out)⟩⟩
                case rest =>
                  clear HC79
                  try clear c1
                  try clear p2
                  try clear q2
                  try clear hx2
                  try clear c4
                  try clear c5
                  try clear c6
                  try clear p6
                  try clear c7
                  try clear c8
                  try clear c14
                  try clear c15
                  try clear p25
                  try clear q25
                  try clear hx25
                  try clear c43
                  try clear c43b0
                  try clear c44
                  try clear c45
                  try clear c46
                  try clear c46b0
                  try clear c48
                  try clear c59
                  try clear c59b0
                  try clear c61
                  try clear c61b0
                  try clear c61b1
                  try clear c63
                  try clear c64
                  try clear p64
                  try clear c73
                  try clear c74
                  try clear c80
                  try clear c83
                  try clear c83b0
                  try clear hcz65_0
                  try clear hcz65_1
                  try clear hcz75_0
                  try clear hcz75_1
                  try clear hcz81_0
                  try clear hcz81_1
                  try clear hcz81_2
                  try clear hcz81_3
                  try clear hfz65_0
                  try clear hfz65_1
                  try clear hfz75_0
                  try clear hfz75_1
                  try clear hfz81_0
                  try clear hfz81_1
                  try clear hfz81_2
                  try clear hfz81_3
                  try clear hx257_0
                  try clear hx257_1
                  try clear p257
                  try clear q257
                  obtain ⟨kq, x95_78, rfl, HA, HJ78, HO_233000, HO_233001, HO_233003, BK228, BK232, HB⟩ := hcut
                  cases kq with
                  | zero => exact absurd HA.out (by simp [ferrylaw04_GuestParts.j3])
                  | succ kj78 =>
                    have H := HA.out
                    clear HA
                    simp only [ferrylaw04_GuestParts.j3] at H
                    by_cases c84 : x95_78 = true
                    · subst c84
                      have H1 : (if a4 = true then ((ferryref04_Prot.f kj78 x233000_20 x233001_20 x233002_20 x233003_20 ((Int.tdiv a5 4096) % 4294967296)).bind fun t262 => (if t262 < 0 then ((ferryref03_Peek.f kj78 x233000_20 x233001_20 t261).bind fun t263 => (if t263 = 0 then ((ferrylaw04_awake.f kj78).bind fun t264 => (some t264)) else (none))) else (none))) else ((ferryref04_Prot.f kj78 x233000_20 x233001_20 x233002_20 x233003_20 ((Int.tdiv a5 4096) % 4294967296)).bind fun t265 => (if t265 = a3 then ((ferryref03_Peek.f kj78 x233000_20 x233001_20 t261).bind fun t266 => (if t266 = 0 then ((ferrylaw04_awake.f kj78).bind fun t267 => (some t267)) else (none))) else (none)))) = some r := by rw [if_pos rfl] at H; exact H
                      clear H
                      have H := H1
                      clear H1
                      by_cases c85 : a4 = true
                      · subst c85
                        have H1 : ((ferryref04_Prot.f kj78 x233000_20 x233001_20 x233002_20 x233003_20 ((Int.tdiv a5 4096) % 4294967296)).bind fun t262 => (if t262 < 0 then ((ferryref03_Peek.f kj78 x233000_20 x233001_20 t261).bind fun t263 => (if t263 = 0 then ((ferrylaw04_awake.f kj78).bind fun t264 => (some t264)) else (none))) else (none))) = some r := by rw [if_pos rfl] at H; exact H
                        clear H
                        have H := H1
                        clear H1
                        replace H := Option.bind_eq_some_iff.mp H
                        obtain ⟨t262, A860, H⟩ := H
                        replace H : (if t262 < 0 then ((ferryref03_Peek.f kj78 x233000_20 x233001_20 t261).bind fun t263 => (if t263 = 0 then ((ferrylaw04_awake.f kj78).bind fun t264 => (some t264)) else (none))) else (none)) = some r := H
                        have A86 := Aside0.mk A860
                        clear A860
                        by_cases c87 : t262 < 0
                        · rw [if_pos c87] at H
                          have c87b0 : decide (t262 < 0) = true := decide_eq_true c87
                          clear c87
                          replace H := Option.bind_eq_some_iff.mp H
                          obtain ⟨t263, A880, H⟩ := H
                          replace H : (if t263 = 0 then ((ferrylaw04_awake.f kj78).bind fun t264 => (some t264)) else (none)) = some r := H
                          have A88 := Aside0.mk A880
                          clear A880
                          by_cases c89 : t263 = 0
                          · rw [if_pos c89] at H
                            have c89b0 : (t263 == 0) = true := beq_iff_eq.mpr c89
                            have c89b1 : (t263 != 0) = false := bne_eq_false_iff_eq.mpr c89
                            clear c89
                            replace H := Option.bind_eq_some_iff.mp H
                            obtain ⟨t264, A900, H⟩ := H
                            replace H : (some t264) = some r := H
                            have A90 := Aside0.mk A900
                            clear A900
                            obtain rfl := Option.some.inj H
                            have hnb91 := NB232_228.out
                            have hnc91 := NB228_232.out
                            have hcz92_0 : wc.cell? ⟨gb232, 0, none⟩ = some (u233000) := (blk_cell BK232.out 0).trans rfl
                            have hcz92_1 : wc.cell? ⟨gb232, 1, none⟩ = some (u233001) := (blk_cell BK232.out 1).trans rfl
                            have hcz92_2 : wc.cell? ⟨gb232, 2, none⟩ = some (.int .u64 x233002_20) := (blk_cell BK232.out 2).trans rfl
                            have hcz92_3 : wc.cell? ⟨gb232, 3, none⟩ = some (u233003) := (blk_cell BK232.out 3).trans rfl
                            have hfz92_0 := blk_frozen BK232.out 0
                            have hfz92_1 := blk_frozen BK232.out 1
                            have hfz92_2 := blk_frozen BK232.out 2
                            have hfz92_3 := blk_frozen BK232.out 3
                            obtain ⟨Ao93, co93, eo93⟩ := Kd.V_slice HO_233000.out
                            subst eo93
                            obtain ⟨Ao94, co94, eo94⟩ := Kd.V_slice HO_233001.out
                            subst eo94
                            obtain ⟨Ao95, co95, eo95⟩ := Kd.V_slice HO_233003.out
                            subst eo95
                            go_wp2_with (first | (go_at_call 14; (with_reducible refine (ferryref04_Prot.calls kj78 _ _ x233000_20 _ _ x233001_20 x233002_20 _ _ x233003_20 ((Int.tdiv a5 4096) % 4294967296) t262 _ ?side1 ?side2 ?side3 ?side4 ?side5 ?side6 A86.out).mono ?_); (case side1 => repeat (first | exact (Kd.V_reads' HO_233000.out).2.2 | (with_reducible refine Kd.C_alloc ?_ _) | (with_reducible refine Kd.C_drewN ?_ _) | (with_reducible refine Kd.C_drew ?_))); (case side2 => exact (Kd.V_reads' HO_233000.out).2.1); (case side3 => repeat (first | exact (Kd.V_reads' HO_233001.out).2.2 | (with_reducible refine Kd.C_alloc ?_ _) | (with_reducible refine Kd.C_drewN ?_ _) | (with_reducible refine Kd.C_drew ?_))); (case side4 => exact (Kd.V_reads' HO_233001.out).2.1); (case side5 => repeat (first | exact (Kd.V_reads' HO_233003.out).2.2 | (with_reducible refine Kd.C_alloc ?_ _) | (with_reducible refine Kd.C_drewN ?_ _) | (with_reducible refine Kd.C_drew ?_))); (case side6 => exact (Kd.V_reads' HO_233003.out).2.1); rintro e w96 ⟨rfl, hb⟩; have n0_ := Aside0.mk (Kd.V_below (vT_ HO_233000.out) hb); have n1_ := Aside0.mk (Kd.V_below (vT_ HO_233001.out) hb); have n2_ := Aside0.mk (Kd.V_below (vT_ HO_233003.out) hb); have n3_ := Aside0.mk (blk_below (g := gb228) (o := .cells #[.slice A0_0 l0_0.length c0_0, .slice A0_1 l0_1.length c0_1, .int .u64 a0_2, .slice A0_3 l0_3.length c0_3] 29 (0, 0)) (bT_ BK228.out) hb); have n4_ := Aside0.mk (blk_below (g := gb232) (o := .cells #[.slice Ao93 x233000_20.length co93, .slice Ao94 x233001_20.length co94, .int .u64 x233002_20, .slice Ao95 x233003_20.length co95] 29 (0, 0)) (bT_ BK232.out) hb); have n5_ := Aside0.mk (below_step beT_ hb); clear HO_233000; clear HO_233001; clear HO_233003; clear BK228; clear BK232; clear HB; have HO_233000 := n0_; have HO_233001 := n1_; have HO_233003 := n2_; have BK228 := n3_; have BK232 := n4_; have HB := n5_; clear n0_ n1_ n2_ n3_ n4_ n5_; (try clear hb); (try clear hb2); (try clear hk); (try clear hi); have hcz97_0 : w96.cell? ⟨gb232, 0, none⟩ = some (.slice Ao93 x233000_20.length co93) := (blk_cell BK232.out 0).trans rfl; have hcz97_1 : w96.cell? ⟨gb232, 1, none⟩ = some (.slice Ao94 x233001_20.length co94) := (blk_cell BK232.out 1).trans rfl; have hcz97_2 : w96.cell? ⟨gb232, 2, none⟩ = some (.int .u64 x233002_20) := (blk_cell BK232.out 2).trans rfl; have hcz97_3 : w96.cell? ⟨gb232, 3, none⟩ = some (.slice Ao95 x233003_20.length co95) := (blk_cell BK232.out 3).trans rfl; have hfz97_0 := blk_frozen BK232.out 0; have hfz97_1 := blk_frozen BK232.out 1; have hfz97_2 := blk_frozen BK232.out 2; have hfz97_3 := blk_frozen BK232.out 3) | (go_at_call 16; (with_reducible refine (ferryref03_Peek.calls kj78 _ _ x233000_20 _ _ x233001_20 t261 t263 _ ?side1 ?side2 ?side3 ?side4 A88.out).mono ?_); (case side1 => repeat (first | exact (Kd.V_reads' HO_233000.out).2.2 | (with_reducible refine Kd.C_alloc ?_ _) | (with_reducible refine Kd.C_drewN ?_ _) | (with_reducible refine Kd.C_drew ?_))); (case side2 => exact (Kd.V_reads' HO_233000.out).2.1); (case side3 => repeat (first | exact (Kd.V_reads' HO_233001.out).2.2 | (with_reducible refine Kd.C_alloc ?_ _) | (with_reducible refine Kd.C_drewN ?_ _) | (with_reducible refine Kd.C_drew ?_))); (case side4 => exact (Kd.V_reads' HO_233001.out).2.1); rintro e w98 ⟨rfl, hb⟩; have n0_ := Aside0.mk (Kd.V_below (vT_ HO_233000.out) hb); have n1_ := Aside0.mk (Kd.V_below (vT_ HO_233001.out) hb); have n2_ := Aside0.mk (Kd.V_below (vT_ HO_233003.out) hb); have n3_ := Aside0.mk (blk_below (g := gb228) (o := .cells #[.slice A0_0 l0_0.length c0_0, .slice A0_1 l0_1.length c0_1, .int .u64 a0_2, .slice A0_3 l0_3.length c0_3] 29 (0, 0)) (bT_ BK228.out) hb); have n4_ := Aside0.mk (blk_below (g := gb232) (o := .cells #[.slice Ao93 x233000_20.length co93, .slice Ao94 x233001_20.length co94, .int .u64 x233002_20, .slice Ao95 x233003_20.length co95] 29 (0, 0)) (bT_ BK232.out) hb); have n5_ := Aside0.mk (below_step beT_ hb); clear HO_233000; clear HO_233001; clear HO_233003; clear BK228; clear BK232; clear HB; have HO_233000 := n0_; have HO_233001 := n1_; have HO_233003 := n2_; have BK228 := n3_; have BK232 := n4_; have HB := n5_; clear n0_ n1_ n2_ n3_ n4_ n5_; (try clear hb); (try clear hb2); (try clear hk); (try clear hi)) | (go_at_call 10; (with_reducible refine (ferrylaw04_awake.calls kj78  t264 _ A90.out).mono ?_); rintro e w99 ⟨rfl, hb⟩; have n0_ := Aside0.mk (Kd.V_below (vT_ HO_233000.out) hb); have n1_ := Aside0.mk (Kd.V_below (vT_ HO_233001.out) hb); have n2_ := Aside0.mk (Kd.V_below (vT_ HO_233003.out) hb); have n3_ := Aside0.mk (blk_below (g := gb228) (o := .cells #[.slice A0_0 l0_0.length c0_0, .slice A0_1 l0_1.length c0_1, .int .u64 a0_2, .slice A0_3 l0_3.length c0_3] 29 (0, 0)) (bT_ BK228.out) hb); have n4_ := Aside0.mk (blk_below (g := gb232) (o := .cells #[.slice Ao93 x233000_20.length co93, .slice Ao94 x233001_20.length co94, .int .u64 x233002_20, .slice Ao95 x233003_20.length co95] 29 (0, 0)) (bT_ BK232.out) hb); have n5_ := Aside0.mk (below_step beT_ hb); clear HO_233000; clear HO_233001; clear HO_233003; clear BK228; clear BK232; clear HB; have HO_233000 := n0_; have HO_233001 := n1_; have HO_233003 := n2_; have BK228 := n3_; have BK232 := n4_; have HB := n5_; clear n0_ n1_ n2_ n3_ n4_ n5_; (try clear hb); (try clear hb2); (try clear hk); (try clear hi)))
                            go_ret
                            exact ⟨by first | rfl | (simp [errW_none, errW_some] <;> rfl) | (simp [*, errW_none, errW_some] <;> rfl), by repeat (first | (with_reducible first | exact HB.out | apply below_alloc | apply pw_below_drewN | apply below_drew1 | refine below_set ?_ GE228.out | refine below_set ?_ GE232.out) | exact HB.out)⟩
                          rw [if_neg c89] at H
                          exact absurd H (by simp)
                        rw [if_neg c87] at H
                        exact absurd H (by simp)
                      replace c85 := Bool.eq_false_iff.mpr c85
                      subst c85
                      have H1 : ((ferryref04_Prot.f kj78 x233000_20 x233001_20 x233002_20 x233003_20 ((Int.tdiv a5 4096) % 4294967296)).bind fun t265 => (if t265 = a3 then ((ferryref03_Peek.f kj78 x233000_20 x233001_20 t261).bind fun t266 => (if t266 = 0 then ((ferrylaw04_awake.f kj78).bind fun t267 => (some t267)) else (none))) else (none))) = some r := by rw [if_neg (show ¬ (false = true) by decide)] at H; exact H
                      clear H
                      have H := H1
                      clear H1
                      replace H := Option.bind_eq_some_iff.mp H
                      obtain ⟨t265, A1000, H⟩ := H
                      replace H : (if t265 = a3 then ((ferryref03_Peek.f kj78 x233000_20 x233001_20 t261).bind fun t266 => (if t266 = 0 then ((ferrylaw04_awake.f kj78).bind fun t267 => (some t267)) else (none))) else (none)) = some r := H
                      have A100 := Aside0.mk A1000
                      clear A1000
                      by_cases c101 : t265 = a3
                      · rw [if_pos c101] at H
                        have c101b0 : (t265 == a3) = true := beq_iff_eq.mpr c101
                        have c101b1 : (t265 != a3) = false := bne_eq_false_iff_eq.mpr c101
                        clear c101
                        replace H := Option.bind_eq_some_iff.mp H
                        obtain ⟨t266, A1020, H⟩ := H
                        replace H : (if t266 = 0 then ((ferrylaw04_awake.f kj78).bind fun t267 => (some t267)) else (none)) = some r := H
                        have A102 := Aside0.mk A1020
                        clear A1020
                        by_cases c103 : t266 = 0
                        · rw [if_pos c103] at H
                          have c103b0 : (t266 == 0) = true := beq_iff_eq.mpr c103
                          have c103b1 : (t266 != 0) = false := bne_eq_false_iff_eq.mpr c103
                          clear c103
                          replace H := Option.bind_eq_some_iff.mp H
                          obtain ⟨t267, A1040, H⟩ := H
                          replace H : (some t267) = some r := H
                          have A104 := Aside0.mk A1040
                          clear A1040
                          obtain rfl := Option.some.inj H
                          have hnb105 := NB232_228.out
                          have hnc105 := NB228_232.out
                          have hcz106_0 : wc.cell? ⟨gb232, 0, none⟩ = some (u233000) := (blk_cell BK232.out 0).trans rfl
                          have hcz106_1 : wc.cell? ⟨gb232, 1, none⟩ = some (u233001) := (blk_cell BK232.out 1).trans rfl
                          have hcz106_2 : wc.cell? ⟨gb232, 2, none⟩ = some (.int .u64 x233002_20) := (blk_cell BK232.out 2).trans rfl
                          have hcz106_3 : wc.cell? ⟨gb232, 3, none⟩ = some (u233003) := (blk_cell BK232.out 3).trans rfl
                          have hfz106_0 := blk_frozen BK232.out 0
                          have hfz106_1 := blk_frozen BK232.out 1
                          have hfz106_2 := blk_frozen BK232.out 2
                          have hfz106_3 := blk_frozen BK232.out 3
                          obtain ⟨Ao107, co107, eo107⟩ := Kd.V_slice HO_233000.out
                          subst eo107
                          obtain ⟨Ao108, co108, eo108⟩ := Kd.V_slice HO_233001.out
                          subst eo108
                          obtain ⟨Ao109, co109, eo109⟩ := Kd.V_slice HO_233003.out
                          subst eo109
                          go_wp2_with (first | (go_at_call 14; (with_reducible refine (ferryref04_Prot.calls kj78 _ _ x233000_20 _ _ x233001_20 x233002_20 _ _ x233003_20 ((Int.tdiv a5 4096) % 4294967296) t265 _ ?side1 ?side2 ?side3 ?side4 ?side5 ?side6 A100.out).mono ?_); (case side1 => repeat (first | exact (Kd.V_reads' HO_233000.out).2.2 | (with_reducible refine Kd.C_alloc ?_ _) | (with_reducible refine Kd.C_drewN ?_ _) | (with_reducible refine Kd.C_drew ?_))); (case side2 => exact (Kd.V_reads' HO_233000.out).2.1); (case side3 => repeat (first | exact (Kd.V_reads' HO_233001.out).2.2 | (with_reducible refine Kd.C_alloc ?_ _) | (with_reducible refine Kd.C_drewN ?_ _) | (with_reducible refine Kd.C_drew ?_))); (case side4 => exact (Kd.V_reads' HO_233001.out).2.1); (case side5 => repeat (first | exact (Kd.V_reads' HO_233003.out).2.2 | (with_reducible refine Kd.C_alloc ?_ _) | (with_reducible refine Kd.C_drewN ?_ _) | (with_reducible refine Kd.C_drew ?_))); (case side6 => exact (Kd.V_reads' HO_233003.out).2.1); rintro e w110 ⟨rfl, hb⟩; have n0_ := Aside0.mk (Kd.V_below (vT_ HO_233000.out) hb); have n1_ := Aside0.mk (Kd.V_below (vT_ HO_233001.out) hb); have n2_ := Aside0.mk (Kd.V_below (vT_ HO_233003.out) hb); have n3_ := Aside0.mk (blk_below (g := gb228) (o := .cells #[.slice A0_0 l0_0.length c0_0, .slice A0_1 l0_1.length c0_1, .int .u64 a0_2, .slice A0_3 l0_3.length c0_3] 29 (0, 0)) (bT_ BK228.out) hb); have n4_ := Aside0.mk (blk_below (g := gb232) (o := .cells #[.slice Ao107 x233000_20.length co107, .slice Ao108 x233001_20.length co108, .int .u64 x233002_20, .slice Ao109 x233003_20.length co109] 29 (0, 0)) (bT_ BK232.out) hb); have n5_ := Aside0.mk (below_step beT_ hb); clear HO_233000; clear HO_233001; clear HO_233003; clear BK228; clear BK232; clear HB; have HO_233000 := n0_; have HO_233001 := n1_; have HO_233003 := n2_; have BK228 := n3_; have BK232 := n4_; have HB := n5_; clear n0_ n1_ n2_ n3_ n4_ n5_; (try clear hb); (try clear hb2); (try clear hk); (try clear hi); have hcz111_0 : w110.cell? ⟨gb232, 0, none⟩ = some (.slice Ao107 x233000_20.length co107) := (blk_cell BK232.out 0).trans rfl; have hcz111_1 : w110.cell? ⟨gb232, 1, none⟩ = some (.slice Ao108 x233001_20.length co108) := (blk_cell BK232.out 1).trans rfl; have hcz111_2 : w110.cell? ⟨gb232, 2, none⟩ = some (.int .u64 x233002_20) := (blk_cell BK232.out 2).trans rfl; have hcz111_3 : w110.cell? ⟨gb232, 3, none⟩ = some (.slice Ao109 x233003_20.length co109) := (blk_cell BK232.out 3).trans rfl; have hfz111_0 := blk_frozen BK232.out 0; have hfz111_1 := blk_frozen BK232.out 1; have hfz111_2 := blk_frozen BK232.out 2; have hfz111_3 := blk_frozen BK232.out 3) | (go_at_call 16; (with_reducible refine (ferryref03_Peek.calls kj78 _ _ x233000_20 _ _ x233001_20 t261 t266 _ ?side1 ?side2 ?side3 ?side4 A102.out).mono ?_); (case side1 => repeat (first | exact (Kd.V_reads' HO_233000.out).2.2 | (with_reducible refine Kd.C_alloc ?_ _) | (with_reducible refine Kd.C_drewN ?_ _) | (with_reducible refine Kd.C_drew ?_))); (case side2 => exact (Kd.V_reads' HO_233000.out).2.1); (case side3 => repeat (first | exact (Kd.V_reads' HO_233001.out).2.2 | (with_reducible refine Kd.C_alloc ?_ _) | (with_reducible refine Kd.C_drewN ?_ _) | (with_reducible refine Kd.C_drew ?_))); (case side4 => exact (Kd.V_reads' HO_233001.out).2.1); rintro e w112 ⟨rfl, hb⟩; have n0_ := Aside0.mk (Kd.V_below (vT_ HO_233000.out) hb); have n1_ := Aside0.mk (Kd.V_below (vT_ HO_233001.out) hb); have n2_ := Aside0.mk (Kd.V_below (vT_ HO_233003.out) hb); have n3_ := Aside0.mk (blk_below (g := gb228) (o := .cells #[.slice A0_0 l0_0.length c0_0, .slice A0_1 l0_1.length c0_1, .int .u64 a0_2, .slice A0_3 l0_3.length c0_3] 29 (0, 0)) (bT_ BK228.out) hb); have n4_ := Aside0.mk (blk_below (g := gb232) (o := .cells #[.slice Ao107 x233000_20.length co107, .slice Ao108 x233001_20.length co108, .int .u64 x233002_20, .slice Ao109 x233003_20.length co109] 29 (0, 0)) (bT_ BK232.out) hb); have n5_ := Aside0.mk (below_step beT_ hb); clear HO_233000; clear HO_233001; clear HO_233003; clear BK228; clear BK232; clear HB; have HO_233000 := n0_; have HO_233001 := n1_; have HO_233003 := n2_; have BK228 := n3_; have BK232 := n4_; have HB := n5_; clear n0_ n1_ n2_ n3_ n4_ n5_; (try clear hb); (try clear hb2); (try clear hk); (try clear hi)) | (go_at_call 10; (with_reducible refine (ferrylaw04_awake.calls kj78  t267 _ A104.out).mono ?_); rintro e w113 ⟨rfl, hb⟩; have n0_ := Aside0.mk (Kd.V_below (vT_ HO_233000.out) hb); have n1_ := Aside0.mk (Kd.V_below (vT_ HO_233001.out) hb); have n2_ := Aside0.mk (Kd.V_below (vT_ HO_233003.out) hb); have n3_ := Aside0.mk (blk_below (g := gb228) (o := .cells #[.slice A0_0 l0_0.length c0_0, .slice A0_1 l0_1.length c0_1, .int .u64 a0_2, .slice A0_3 l0_3.length c0_3] 29 (0, 0)) (bT_ BK228.out) hb); have n4_ := Aside0.mk (blk_below (g := gb232) (o := .cells #[.slice Ao107 x233000_20.length co107, .slice Ao108 x233001_20.length co108, .int .u64 x233002_20, .slice Ao109 x233003_20.length co109] 29 (0, 0)) (bT_ BK232.out) hb); have n5_ := Aside0.mk (below_step beT_ hb); clear HO_233000; clear HO_233001; clear HO_233003; clear BK228; clear BK232; clear HB; have HO_233000 := n0_; have HO_233001 := n1_; have HO_233003 := n2_; have BK228 := n3_; have BK232 := n4_; have HB := n5_; clear n0_ n1_ n2_ n3_ n4_ n5_; (try clear hb); (try clear hb2); (try clear hk); (try clear hi)))
                          go_ret
                          exact ⟨by first | rfl | (simp [errW_none, errW_some] <;> rfl) | (simp [*, errW_none, errW_some] <;> rfl), by repeat (first | (with_reducible first | exact HB.out | apply below_alloc | apply pw_below_drewN | apply below_drew1 | refine below_set ?_ GE228.out | refine below_set ?_ GE232.out) | exact HB.out)⟩
                        rw [if_neg c103] at H
                        exact absurd H (by simp)
                      rw [if_neg c101] at H
                      exact absurd H (by simp)
                    replace c84 := Bool.eq_false_iff.mpr c84
                    subst c84
                    have H1 : ((ferryref04_Prot.f kj78 x233000_20 x233001_20 x233002_20 x233003_20 ((Int.tdiv a5 4096) % 4294967296)).bind fun t268 => ((ferryref04_Prot.f kj78 l0_0 l0_1 a0_2 l0_3 ((Int.tdiv a5 4096) % 4294967296)).bind fun t269 => (if t268 = t269 then ((ferryref03_Peek.f kj78 x233000_20 x233001_20 t261).bind fun t270 => ((ferryref03_Peek.f kj78 l0_0 l0_1 t261).bind fun t271 => (if t270 = t271 then ((ferrylaw04_awake.f kj78).bind fun t272 => (some t272)) else (none)))) else (none)))) = some r := by rw [if_neg (show ¬ (false = true) by decide)] at H; exact H
                    clear H
                    have H := H1
                    clear H1
                    replace H := Option.bind_eq_some_iff.mp H
                    obtain ⟨t268, A1140, H⟩ := H
                    replace H : ((ferryref04_Prot.f kj78 l0_0 l0_1 a0_2 l0_3 ((Int.tdiv a5 4096) % 4294967296)).bind fun t269 => (if t268 = t269 then ((ferryref03_Peek.f kj78 x233000_20 x233001_20 t261).bind fun t270 => ((ferryref03_Peek.f kj78 l0_0 l0_1 t261).bind fun t271 => (if t270 = t271 then ((ferrylaw04_awake.f kj78).bind fun t272 => (some t272)) else (none)))) else (none))) = some r := H
                    have A114 := Aside0.mk A1140
                    clear A1140
                    replace H := Option.bind_eq_some_iff.mp H
                    obtain ⟨t269, A1150, H⟩ := H
                    replace H : (if t268 = t269 then ((ferryref03_Peek.f kj78 x233000_20 x233001_20 t261).bind fun t270 => ((ferryref03_Peek.f kj78 l0_0 l0_1 t261).bind fun t271 => (if t270 = t271 then ((ferrylaw04_awake.f kj78).bind fun t272 => (some t272)) else (none)))) else (none)) = some r := H
                    have A115 := Aside0.mk A1150
                    clear A1150
                    by_cases c116 : t268 = t269
                    · rw [if_pos c116] at H
                      have c116b0 : (t268 == t269) = true := beq_iff_eq.mpr c116
                      have c116b1 : (t268 != t269) = false := bne_eq_false_iff_eq.mpr c116
                      clear c116
                      replace H := Option.bind_eq_some_iff.mp H
                      obtain ⟨t270, A1170, H⟩ := H
                      replace H : ((ferryref03_Peek.f kj78 l0_0 l0_1 t261).bind fun t271 => (if t270 = t271 then ((ferrylaw04_awake.f kj78).bind fun t272 => (some t272)) else (none))) = some r := H
                      have A117 := Aside0.mk A1170
                      clear A1170
                      replace H := Option.bind_eq_some_iff.mp H
                      obtain ⟨t271, A1180, H⟩ := H
                      replace H : (if t270 = t271 then ((ferrylaw04_awake.f kj78).bind fun t272 => (some t272)) else (none)) = some r := H
                      have A118 := Aside0.mk A1180
                      clear A1180
                      by_cases c119 : t270 = t271
                      · rw [if_pos c119] at H
                        have c119b0 : (t270 == t271) = true := beq_iff_eq.mpr c119
                        have c119b1 : (t270 != t271) = false := bne_eq_false_iff_eq.mpr c119
                        clear c119
                        replace H := Option.bind_eq_some_iff.mp H
                        obtain ⟨t272, A1200, H⟩ := H
                        replace H : (some t272) = some r := H
                        have A120 := Aside0.mk A1200
                        clear A1200
                        obtain rfl := Option.some.inj H
                        try go_wp2
                        have n0_ := Aside0.mk (Kd.V_drew HO_233000.out)
                        have n1_ := Aside0.mk (Kd.V_drew HO_233001.out)
                        have n2_ := Aside0.mk (Kd.V_drew HO_233003.out)
                        have n3_ := Aside0.mk (blk_drew BK228.out)
                        have n4_ := Aside0.mk (blk_drew BK232.out)
                        have n5_ := Aside0.mk (below_drew1 HB.out)
                        clear HO_233000
                        clear HO_233001
                        clear HO_233003
                        clear BK228
                        clear BK232
                        clear HB
                        have HO_233000 := n0_
                        have HO_233001 := n1_
                        have HO_233003 := n2_
                        have BK228 := n3_
                        have BK232 := n4_
                        have HB := n5_
                        clear n0_ n1_ n2_ n3_ n4_ n5_
                        obtain ⟨Ao122, co122, eo122⟩ := Kd.V_slice HO_233000.out
                        (first | subst eo122 | (injection eo122 with f1_ f2_ f3_; have f4_ := f1_.symm; have f5_ := f3_.symm; clear f1_ f2_ f3_; subst f4_; subst f5_))
                        obtain ⟨Ao123, co123, eo123⟩ := Kd.V_slice HO_233001.out
                        (first | subst eo123 | (injection eo123 with f1_ f2_ f3_; have f4_ := f1_.symm; have f5_ := f3_.symm; clear f1_ f2_ f3_; subst f4_; subst f5_))
                        obtain ⟨Ao124, co124, eo124⟩ := Kd.V_slice HO_233003.out
                        (first | subst eo124 | (injection eo124 with f1_ f2_ f3_; have f4_ := f1_.symm; have f5_ := f3_.symm; clear f1_ f2_ f3_; subst f4_; subst f5_))
                        refine start_ (n := 22) (S := fun w' => w'.cell? ⟨gb232, 0, none⟩ = some (.slice Ao122 x233000_20.length co122) ∧ w'.cell? ⟨gb232, 1, none⟩ = some (.slice Ao123 x233001_20.length co123) ∧ w'.cell? ⟨gb232, 2, none⟩ = some (.int .u64 x233002_20) ∧ w'.cell? ⟨gb232, 3, none⟩ = some (.slice Ao124 x233003_20.length co124) ∧ w'.cell? ⟨gb228, 0, none⟩ = some (.slice A0_0 l0_0.length c0_0) ∧ w'.cell? ⟨gb228, 1, none⟩ = some (.slice A0_1 l0_1.length c0_1) ∧ w'.cell? ⟨gb228, 2, none⟩ = some (.int .u64 a0_2) ∧ w'.cell? ⟨gb228, 3, none⟩ = some (.slice A0_3 l0_3.length c0_3)) (ds := []) #[false, false, false, false, false, false, false, false, false, false, false, false, false, false, false, false, false, false, false, false, false, false] (by kernel_rfl) rfl rfl ⟨(blk_cell BK232.out 0).trans rfl, (blk_cell BK232.out 1).trans rfl, (blk_cell BK232.out 2).trans rfl, (blk_cell BK232.out 3).trans rfl, (blk_cell BK228.out 0).trans rfl, (blk_cell BK228.out 1).trans rfl, (blk_cell BK228.out 2).trans rfl, (blk_cell BK228.out 3).trans rfl⟩ (fun hHeld => ?_); refine with_tabW ferrylaw04_GuestParts.tab20 ferrylaw04_GuestParts.bits20 (fun HT_ HW_ => ?_)
                        generalize wc.drew = w121 at HO_233000 HO_233001 HO_233003 BK228 BK232 HB hHeld ⊢
                        refine pS_ 1 125 (mb_ 22 2) ?_
                        refine pS_ 4 128 (mb_ 22 18) ?_
                        refine t8S_ 0 124 (mb_ 22 19) ?_
                        refine t8S_ 3 127 (mb_ 22 27) ?_
                        refine one_ (i := 2) (N := some 126) (mb_ 22 31) rfl rfl (one_of HT_.out (by kernel_rfl)) (by decide) (fun K hK => ?_)
                        refine goes_ Try.func14 (by kernel_rfl) rfl #[.agg #[.slice Ao122 x233000_20.length co122, .slice Ao123 x233001_20.length co123, .int .u64 x233002_20, .slice Ao124 x233003_20.length co124], .int .u32 ((Int.tdiv a5 4096) % 4294967296)] (by rfl) rfl rfl (by (try simp only [List.map_toArray, List.map_cons, List.map_nil]); first | done | rfl | (simp only [List.length_drop, List.length_take]; rfl)) ?_
                        with_reducible refine (ferryref04_Prot.calls kj78 _ _ x233000_20 _ _ x233001_20 x233002_20 _ _ x233003_20 ((Int.tdiv a5 4096) % 4294967296) t268 _ ?side1 ?side2 ?side3 ?side4 ?side5 ?side6 A114.out).mono ?_
                        (case side1 => repeat (first | exact (Kd.V_reads' HO_233000.out).2.2 | (with_reducible refine Kd.C_alloc ?_ _) | (with_reducible refine Kd.C_drewN ?_ _) | (with_reducible refine Kd.C_drew ?_)))
                        (case side2 => exact (Kd.V_reads' HO_233000.out).2.1)
                        (case side3 => repeat (first | exact (Kd.V_reads' HO_233001.out).2.2 | (with_reducible refine Kd.C_alloc ?_ _) | (with_reducible refine Kd.C_drewN ?_ _) | (with_reducible refine Kd.C_drew ?_)))
                        (case side4 => exact (Kd.V_reads' HO_233001.out).2.1)
                        (case side5 => repeat (first | exact (Kd.V_reads' HO_233003.out).2.2 | (with_reducible refine Kd.C_alloc ?_ _) | (with_reducible refine Kd.C_drewN ?_ _) | (with_reducible refine Kd.C_drew ?_)))
                        (case side6 => exact (Kd.V_reads' HO_233003.out).2.1)
                        rintro e w125 ⟨rfl, hb⟩
                        refine ⟨_, rfl, ?_⟩
                        have n0_ := Aside0.mk (Kd.V_below (vT_ HO_233000.out) hb)
                        have n1_ := Aside0.mk (Kd.V_below (vT_ HO_233001.out) hb)
                        have n2_ := Aside0.mk (Kd.V_below (vT_ HO_233003.out) hb)
                        have n3_ := Aside0.mk (blk_below (g := gb228) (o := .cells #[.slice A0_0 l0_0.length c0_0, .slice A0_1 l0_1.length c0_1, .int .u64 a0_2, .slice A0_3 l0_3.length c0_3] 29 (0, 0)) (bT_ BK228.out) hb)
                        have n4_ := Aside0.mk (blk_below (g := gb232) (o := .cells #[.slice Ao122 x233000_20.length co122, .slice Ao123 x233001_20.length co123, .int .u64 x233002_20, .slice Ao124 x233003_20.length co124] 29 (0, 0)) (bT_ BK232.out) hb)
                        have n5_ := Aside0.mk (below_step beT_ hb)
                        clear HO_233000
                        clear HO_233001
                        clear HO_233003
                        clear BK228
                        clear BK232
                        clear HB
                        have HO_233000 := n0_
                        have HO_233001 := n1_
                        have HO_233003 := n2_
                        have BK228 := n3_
                        have BK232 := n4_
                        have HB := n5_
                        clear n0_ n1_ n2_ n3_ n4_ n5_
                        (try clear hb)
                        (try clear hb2)
                        (try clear hk)
                        (try clear hi)
                        refine hK.out _ _ ⟨(blk_cell BK232.out 0).trans rfl, (blk_cell BK232.out 1).trans rfl, (blk_cell BK232.out 2).trans rfl, (blk_cell BK232.out 3).trans rfl, (blk_cell BK228.out 0).trans rfl, (blk_cell BK228.out 1).trans rfl, (blk_cell BK228.out 2).trans rfl, (blk_cell BK228.out 3).trans rfl⟩ (fun hHeld => ?_)
                        clear hK K
                        refine nS_ ?_
                        refine one_ (i := 5) (N := some 129) (mb_ 22 63) rfl rfl (one_of HT_.out (by kernel_rfl)) (by decide) (fun K hK => ?_)
                        refine goes_ Try.func14 (by kernel_rfl) rfl #[.agg #[.slice A0_0 l0_0.length c0_0, .slice A0_1 l0_1.length c0_1, .int .u64 a0_2, .slice A0_3 l0_3.length c0_3], .int .u32 ((Int.tdiv a5 4096) % 4294967296)] (by rfl) rfl rfl (by (try simp only [List.map_toArray, List.map_cons, List.map_nil]); first | done | rfl | (simp only [List.length_drop, List.length_take]; rfl)) ?_
                        with_reducible refine (ferryref04_Prot.calls kj78 _ _ l0_0 _ _ l0_1 a0_2 _ _ l0_3 ((Int.tdiv a5 4096) % 4294967296) t269 _ ?side1 ?side2 ?side3 ?side4 ?side5 ?side6 A115.out).mono ?_
                        (case side1 => repeat (first | exact (Kd.C_below HR0_0.out HB.out) | (with_reducible refine Kd.C_alloc ?_ _) | (with_reducible refine Kd.C_drewN ?_ _) | (with_reducible refine Kd.C_drew ?_)))
                        (case side2 => exact HC0_0.out)
                        (case side3 => repeat (first | exact (Kd.C_below HR0_1.out HB.out) | (with_reducible refine Kd.C_alloc ?_ _) | (with_reducible refine Kd.C_drewN ?_ _) | (with_reducible refine Kd.C_drew ?_)))
                        (case side4 => exact HC0_1.out)
                        (case side5 => repeat (first | exact (Kd.C_below HR0_3.out HB.out) | (with_reducible refine Kd.C_alloc ?_ _) | (with_reducible refine Kd.C_drewN ?_ _) | (with_reducible refine Kd.C_drew ?_)))
                        (case side6 => exact HC0_3.out)
                        rintro e w126 ⟨rfl, hb⟩
                        refine ⟨_, rfl, ?_⟩
                        have n0_ := Aside0.mk (Kd.V_below (vT_ HO_233000.out) hb)
                        have n1_ := Aside0.mk (Kd.V_below (vT_ HO_233001.out) hb)
                        have n2_ := Aside0.mk (Kd.V_below (vT_ HO_233003.out) hb)
                        have n3_ := Aside0.mk (blk_below (g := gb228) (o := .cells #[.slice A0_0 l0_0.length c0_0, .slice A0_1 l0_1.length c0_1, .int .u64 a0_2, .slice A0_3 l0_3.length c0_3] 29 (0, 0)) (bT_ BK228.out) hb)
                        have n4_ := Aside0.mk (blk_below (g := gb232) (o := .cells #[.slice Ao122 x233000_20.length co122, .slice Ao123 x233001_20.length co123, .int .u64 x233002_20, .slice Ao124 x233003_20.length co124] 29 (0, 0)) (bT_ BK232.out) hb)
                        have n5_ := Aside0.mk (below_step beT_ hb)
                        clear HO_233000
                        clear HO_233001
                        clear HO_233003
                        clear BK228
                        clear BK232
                        clear HB
                        have HO_233000 := n0_
                        have HO_233001 := n1_
                        have HO_233003 := n2_
                        have BK228 := n3_
                        have BK232 := n4_
                        have HB := n5_
                        clear n0_ n1_ n2_ n3_ n4_ n5_
                        (try clear hb)
                        (try clear hb2)
                        (try clear hk)
                        (try clear hi)
                        refine hK.out _ _ ⟨(blk_cell BK232.out 0).trans rfl, (blk_cell BK232.out 1).trans rfl, (blk_cell BK232.out 2).trans rfl, (blk_cell BK232.out 3).trans rfl, (blk_cell BK228.out 0).trans rfl, (blk_cell BK228.out 1).trans rfl, (blk_cell BK228.out 2).trans rfl, (blk_cell BK228.out 3).trans rfl⟩ (fun hHeld => ?_)
                        clear hK K
                        refine nS_ ?_
                        refine pS_ 6 130 (mb_ 22 127) ?_
                        refine pS_ 7 131 (mb_ 22 255) ?_
                        refine pS_ 8 132 (mb_ 22 511) ?_
                        refine pS_ 10 134 (mb_ 22 1535) ?_
                        refine pS_ 12 136 (mb_ 22 5631) ?_
                        refine pS_ 14 138 (mb_ 22 22015) ?_
                        refine t8S_ 9 133 (mb_ 22 22527) ?_
                        refine t8S_ 13 137 (mb_ 22 30719) ?_
                        refine one_ (i := 11) (N := some 135) (mb_ 22 32767) rfl rfl (one_of HT_.out (by kernel_rfl)) (by decide) (fun K hK => ?_)
                        refine goes_ Try.func16 (by kernel_rfl) rfl #[.agg #[.slice Ao122 x233000_20.length co122, .slice Ao123 x233001_20.length co123], .int .u64 t261] (by rfl) rfl rfl (by (try simp only [List.map_toArray, List.map_cons, List.map_nil]); first | done | rfl | (simp only [List.length_drop, List.length_take]; rfl)) ?_
                        with_reducible refine (ferryref03_Peek.calls kj78 _ _ x233000_20 _ _ x233001_20 t261 t270 _ ?side1 ?side2 ?side3 ?side4 A117.out).mono ?_
                        (case side1 => repeat (first | exact (Kd.V_reads' HO_233000.out).2.2 | (with_reducible refine Kd.C_alloc ?_ _) | (with_reducible refine Kd.C_drewN ?_ _) | (with_reducible refine Kd.C_drew ?_)))
                        (case side2 => exact (Kd.V_reads' HO_233000.out).2.1)
                        (case side3 => repeat (first | exact (Kd.V_reads' HO_233001.out).2.2 | (with_reducible refine Kd.C_alloc ?_ _) | (with_reducible refine Kd.C_drewN ?_ _) | (with_reducible refine Kd.C_drew ?_)))
                        (case side4 => exact (Kd.V_reads' HO_233001.out).2.1)
                        rintro e w127 ⟨rfl, hb⟩
                        refine ⟨_, rfl, ?_⟩
                        have n0_ := Aside0.mk (Kd.V_below (vT_ HO_233000.out) hb)
                        have n1_ := Aside0.mk (Kd.V_below (vT_ HO_233001.out) hb)
                        have n2_ := Aside0.mk (Kd.V_below (vT_ HO_233003.out) hb)
                        have n3_ := Aside0.mk (blk_below (g := gb228) (o := .cells #[.slice A0_0 l0_0.length c0_0, .slice A0_1 l0_1.length c0_1, .int .u64 a0_2, .slice A0_3 l0_3.length c0_3] 29 (0, 0)) (bT_ BK228.out) hb)
                        have n4_ := Aside0.mk (blk_below (g := gb232) (o := .cells #[.slice Ao122 x233000_20.length co122, .slice Ao123 x233001_20.length co123, .int .u64 x233002_20, .slice Ao124 x233003_20.length co124] 29 (0, 0)) (bT_ BK232.out) hb)
                        have n5_ := Aside0.mk (below_step beT_ hb)
                        clear HO_233000
                        clear HO_233001
                        clear HO_233003
                        clear BK228
                        clear BK232
                        clear HB
                        have HO_233000 := n0_
                        have HO_233001 := n1_
                        have HO_233003 := n2_
                        have BK228 := n3_
                        have BK232 := n4_
                        have HB := n5_
                        clear n0_ n1_ n2_ n3_ n4_ n5_
                        (try clear hb)
                        (try clear hb2)
                        (try clear hk)
                        (try clear hi)
                        refine hK.out _ _ ⟨(blk_cell BK232.out 0).trans rfl, (blk_cell BK232.out 1).trans rfl, (blk_cell BK232.out 2).trans rfl, (blk_cell BK232.out 3).trans rfl, (blk_cell BK228.out 0).trans rfl, (blk_cell BK228.out 1).trans rfl, (blk_cell BK228.out 2).trans rfl, (blk_cell BK228.out 3).trans rfl⟩ (fun hHeld => ?_)
                        clear hK K
                        refine nS_ ?_
                        refine one_ (i := 15) (N := some 139) (mb_ 22 65535) rfl rfl (one_of HT_.out (by kernel_rfl)) (by decide) (fun K hK => ?_)
                        refine goes_ Try.func16 (by kernel_rfl) rfl #[.agg #[.slice A0_0 l0_0.length c0_0, .slice A0_1 l0_1.length c0_1], .int .u64 t261] (by rfl) rfl rfl (by (try simp only [List.map_toArray, List.map_cons, List.map_nil]); first | done | rfl | (simp only [List.length_drop, List.length_take]; rfl)) ?_
                        with_reducible refine (ferryref03_Peek.calls kj78 _ _ l0_0 _ _ l0_1 t261 t271 _ ?side1 ?side2 ?side3 ?side4 A118.out).mono ?_
                        (case side1 => repeat (first | exact (Kd.C_below HR0_0.out HB.out) | (with_reducible refine Kd.C_alloc ?_ _) | (with_reducible refine Kd.C_drewN ?_ _) | (with_reducible refine Kd.C_drew ?_)))
                        (case side2 => exact HC0_0.out)
                        (case side3 => repeat (first | exact (Kd.C_below HR0_1.out HB.out) | (with_reducible refine Kd.C_alloc ?_ _) | (with_reducible refine Kd.C_drewN ?_ _) | (with_reducible refine Kd.C_drew ?_)))
                        (case side4 => exact HC0_1.out)
                        rintro e w128 ⟨rfl, hb⟩
                        refine ⟨_, rfl, ?_⟩
                        have n0_ := Aside0.mk (Kd.V_below (vT_ HO_233000.out) hb)
                        have n1_ := Aside0.mk (Kd.V_below (vT_ HO_233001.out) hb)
                        have n2_ := Aside0.mk (Kd.V_below (vT_ HO_233003.out) hb)
                        have n3_ := Aside0.mk (blk_below (g := gb228) (o := .cells #[.slice A0_0 l0_0.length c0_0, .slice A0_1 l0_1.length c0_1, .int .u64 a0_2, .slice A0_3 l0_3.length c0_3] 29 (0, 0)) (bT_ BK228.out) hb)
                        have n4_ := Aside0.mk (blk_below (g := gb232) (o := .cells #[.slice Ao122 x233000_20.length co122, .slice Ao123 x233001_20.length co123, .int .u64 x233002_20, .slice Ao124 x233003_20.length co124] 29 (0, 0)) (bT_ BK232.out) hb)
                        have n5_ := Aside0.mk (below_step beT_ hb)
                        clear HO_233000
                        clear HO_233001
                        clear HO_233003
                        clear BK228
                        clear BK232
                        clear HB
                        have HO_233000 := n0_
                        have HO_233001 := n1_
                        have HO_233003 := n2_
                        have BK228 := n3_
                        have BK232 := n4_
                        have HB := n5_
                        clear n0_ n1_ n2_ n3_ n4_ n5_
                        (try clear hb)
                        (try clear hb2)
                        (try clear hk)
                        (try clear hi)
                        refine hK.out _ _ ⟨(blk_cell BK232.out 0).trans rfl, (blk_cell BK232.out 1).trans rfl, (blk_cell BK232.out 2).trans rfl, (blk_cell BK232.out 3).trans rfl, (blk_cell BK228.out 0).trans rfl, (blk_cell BK228.out 1).trans rfl, (blk_cell BK228.out 2).trans rfl, (blk_cell BK228.out 3).trans rfl⟩ (fun hHeld => ?_)
                        clear hK K
                        refine nS_ ?_
                        refine pS_ 16 140 (mb_ 22 131071) ?_
                        refine pS_ 17 141 (mb_ 22 262143) ?_
                        refine pS_ 18 142 (mb_ 22 524287) ?_
                        refine one_ (i := 19) (N := some 143) (mb_ 22 1048575) rfl rfl (one_of HT_.out (by kernel_rfl)) (by decide) (fun K hK => ?_)
                        refine goes_ Try.func10 (by kernel_rfl) rfl #[] (by rfl) rfl rfl (by (try simp only [List.map_toArray, List.map_cons, List.map_nil]); first | done | rfl | (simp only [List.length_drop, List.length_take]; rfl)) ?_
                        with_reducible refine (ferrylaw04_awake.calls kj78  t272 _ A120.out).mono ?_
                        rintro e w129 ⟨rfl, hb⟩
                        refine ⟨_, rfl, ?_⟩
                        have n0_ := Aside0.mk (Kd.V_below (vT_ HO_233000.out) hb)
                        have n1_ := Aside0.mk (Kd.V_below (vT_ HO_233001.out) hb)
                        have n2_ := Aside0.mk (Kd.V_below (vT_ HO_233003.out) hb)
                        have n3_ := Aside0.mk (blk_below (g := gb228) (o := .cells #[.slice A0_0 l0_0.length c0_0, .slice A0_1 l0_1.length c0_1, .int .u64 a0_2, .slice A0_3 l0_3.length c0_3] 29 (0, 0)) (bT_ BK228.out) hb)
                        have n4_ := Aside0.mk (blk_below (g := gb232) (o := .cells #[.slice Ao122 x233000_20.length co122, .slice Ao123 x233001_20.length co123, .int .u64 x233002_20, .slice Ao124 x233003_20.length co124] 29 (0, 0)) (bT_ BK232.out) hb)
                        have n5_ := Aside0.mk (below_step beT_ hb)
                        clear HO_233000
                        clear HO_233001
                        clear HO_233003
                        clear BK228
                        clear BK232
                        clear HB
                        have HO_233000 := n0_
                        have HO_233001 := n1_
                        have HO_233003 := n2_
                        have BK228 := n3_
                        have BK232 := n4_
                        have HB := n5_
                        clear n0_ n1_ n2_ n3_ n4_ n5_
                        (try clear hb)
                        (try clear hb2)
                        (try clear hk)
                        (try clear hi)
                        refine hK.out _ _ ⟨(blk_cell BK232.out 0).trans rfl, (blk_cell BK232.out 1).trans rfl, (blk_cell BK232.out 2).trans rfl, (blk_cell BK232.out 3).trans rfl, (blk_cell BK228.out 0).trans rfl, (blk_cell BK228.out 1).trans rfl, (blk_cell BK228.out 2).trans rfl, (blk_cell BK228.out 3).trans rfl⟩ (fun hHeld => ?_)
                        clear hK K
                        refine nS_ ?_
                        refine pS_ 20 144 (mb_ 22 2097151) ?_
                        refine pS_ 21 12 (mb_ 22 4194303) ?_
                        refine done_ (done_of HT_.out (by kernel_rfl)) ?_
                        try go_wp2
                        go_ret
                        exact ⟨by first | rfl | (simp [errW_none, errW_some] <;> rfl) | (simp [*, errW_none, errW_some] <;> rfl), by repeat (first | (with_reducible first | exact HB.out | apply below_alloc | apply pw_below_drewN | apply below_drew1 | refine below_set ?_ GE228.out | refine below_set ?_ GE232.out) | exact HB.out)⟩
                      rw [if_neg c119] at H
                      have c119b0 : (t270 == t271) = false := beq_eq_false_iff_ne.mpr c119
                      have c119b1 : (t270 != t271) = true := bne_iff_ne.mpr c119
                      exact absurd H (by simp)
                    rw [if_neg c116] at H
                    have c116b0 : (t268 == t269) = false := beq_eq_false_iff_ne.mpr c116
                    have c116b1 : (t268 != t269) = true := bne_iff_ne.mpr c116
                    exact absurd H (by simp)
          rw [if_neg c40] at H
          have c40b0 : (x14_20 == 0) = false := beq_eq_false_iff_ne.mpr c40
          have c40b1 : (x14_20 != 0) = true := bne_iff_ne.mpr c40
          replace H := Option.bind_eq_some_iff.mp H
          obtain ⟨t255, A1300, H⟩ := H
          replace H : (if t255 = true then ((ferrylaw04_awake.f kj20).bind fun t256 => (some t256)) else (none)) = some r := H
          have A130 := Aside0.mk A1300
          clear A1300
          by_cases c131 : t255 = true
          · subst c131
            have H1 : ((ferrylaw04_awake.f kj20).bind fun t256 => (some t256)) = some r := by rw [if_pos rfl] at H; exact H
            clear H
            have H := H1
            clear H1
            replace H := Option.bind_eq_some_iff.mp H
            obtain ⟨t256, A1320, H⟩ := H
            replace H : (some t256) = some r := H
            have A132 := Aside0.mk A1320
            clear A1320
            obtain rfl := Option.some.inj H
            have hnb133 := NB232_228.out
            have hnc133 := NB228_232.out
            have hcz134_0 : wc.cell? ⟨gb232, 0, none⟩ = some (u233000) := (blk_cell BK232.out 0).trans rfl
            have hcz134_1 : wc.cell? ⟨gb232, 1, none⟩ = some (u233001) := (blk_cell BK232.out 1).trans rfl
            have hcz134_2 : wc.cell? ⟨gb232, 2, none⟩ = some (.int .u64 x233002_20) := (blk_cell BK232.out 2).trans rfl
            have hcz134_3 : wc.cell? ⟨gb232, 3, none⟩ = some (u233003) := (blk_cell BK232.out 3).trans rfl
            have hfz134_0 := blk_frozen BK232.out 0
            have hfz134_1 := blk_frozen BK232.out 1
            have hfz134_2 := blk_frozen BK232.out 2
            have hfz134_3 := blk_frozen BK232.out 3
            have hcz135_0 : wc.cell? ⟨gb228, 0, none⟩ = some (.slice A0_0 l0_0.length c0_0) := (blk_cell BK228.out 0).trans rfl
            have hcz135_1 : wc.cell? ⟨gb228, 1, none⟩ = some (.slice A0_1 l0_1.length c0_1) := (blk_cell BK228.out 1).trans rfl
            have hcz135_2 : wc.cell? ⟨gb228, 2, none⟩ = some (.int .u64 a0_2) := (blk_cell BK228.out 2).trans rfl
            have hcz135_3 : wc.cell? ⟨gb228, 3, none⟩ = some (.slice A0_3 l0_3.length c0_3) := (blk_cell BK228.out 3).trans rfl
            have hfz135_0 := blk_frozen BK228.out 0
            have hfz135_1 := blk_frozen BK228.out 1
            have hfz135_2 := blk_frozen BK228.out 2
            have hfz135_3 := blk_frozen BK228.out 3
            obtain ⟨Ao136, co136, eo136⟩ := Kd.V_slice HO_233000.out
            subst eo136
            obtain ⟨Ao137, co137, eo137⟩ := Kd.V_slice HO_233001.out
            subst eo137
            obtain ⟨Ao138, co138, eo138⟩ := Kd.V_slice HO_233003.out
            subst eo138
            go_wp2_with (first | ((with_reducible refine gate_callee (f := 13) rfl ?_); refine goesL_ (some 48) rfl rfl Try.func13 (by kernel_rfl) rfl #[.agg #[.slice Ao136 x233000_20.length co136, .slice Ao137 x233001_20.length co137, .int .u64 x233002_20, .slice Ao138 x233003_20.length co138], .agg #[.slice A0_0 l0_0.length c0_0, .slice A0_1 l0_1.length c0_1, .int .u64 a0_2, .slice A0_3 l0_3.length c0_3]] rfl (by (try simp only [List.map_toArray, List.map_cons, List.map_nil]); first | done | rfl | (simp only [List.length_drop, List.length_take]; rfl)) ?_; (with_reducible refine (ferryref04_Same.calls kj20 _ _ x233000_20 _ _ x233001_20 x233002_20 _ _ x233003_20 _ _ l0_0 _ _ l0_1 a0_2 _ _ l0_3 true _ ?side1 ?side2 ?side3 ?side4 ?side5 ?side6 ?side7 ?side8 ?side9 ?side10 ?side11 ?side12 A130.out).mono ?_); (case side1 => repeat (first | exact (Kd.V_reads' HO_233000.out).2.2 | (with_reducible refine Kd.C_alloc ?_ _) | (with_reducible refine Kd.C_drewN ?_ _) | (with_reducible refine Kd.C_drew ?_))); (case side2 => exact (Kd.V_reads' HO_233000.out).2.1); (case side3 => repeat (first | exact (Kd.V_reads' HO_233001.out).2.2 | (with_reducible refine Kd.C_alloc ?_ _) | (with_reducible refine Kd.C_drewN ?_ _) | (with_reducible refine Kd.C_drew ?_))); (case side4 => exact (Kd.V_reads' HO_233001.out).2.1); (case side5 => repeat (first | exact (Kd.V_reads' HO_233003.out).2.2 | (with_reducible refine Kd.C_alloc ?_ _) | (with_reducible refine Kd.C_drewN ?_ _) | (with_reducible refine Kd.C_drew ?_))); (case side6 => exact (Kd.V_reads' HO_233003.out).2.1); (case side7 => repeat (first | exact (Kd.C_below HR0_0.out HB.out) | (with_reducible refine Kd.C_alloc ?_ _) | (with_reducible refine Kd.C_drewN ?_ _) | (with_reducible refine Kd.C_drew ?_))); (case side8 => exact HC0_0.out); (case side9 => repeat (first | exact (Kd.C_below HR0_1.out HB.out) | (with_reducible refine Kd.C_alloc ?_ _) | (with_reducible refine Kd.C_drewN ?_ _) | (with_reducible refine Kd.C_drew ?_))); (case side10 => exact HC0_1.out); (case side11 => repeat (first | exact (Kd.C_below HR0_3.out HB.out) | (with_reducible refine Kd.C_alloc ?_ _) | (with_reducible refine Kd.C_drewN ?_ _) | (with_reducible refine Kd.C_drew ?_))); (case side12 => exact HC0_3.out); rintro e w139 ⟨rfl, hb⟩; refine ⟨_, rfl, ?_⟩; have n0_ := Aside0.mk (Kd.V_below (vT_ HO_233000.out) hb); have n1_ := Aside0.mk (Kd.V_below (vT_ HO_233001.out) hb); have n2_ := Aside0.mk (Kd.V_below (vT_ HO_233003.out) hb); have n3_ := Aside0.mk (blk_below (g := gb228) (o := .cells #[.slice A0_0 l0_0.length c0_0, .slice A0_1 l0_1.length c0_1, .int .u64 a0_2, .slice A0_3 l0_3.length c0_3] 29 (0, 0)) (bT_ BK228.out) hb); have n4_ := Aside0.mk (blk_below (g := gb232) (o := .cells #[.slice Ao136 x233000_20.length co136, .slice Ao137 x233001_20.length co137, .int .u64 x233002_20, .slice Ao138 x233003_20.length co138] 29 (0, 0)) (bT_ BK232.out) hb); have n5_ := Aside0.mk (below_step beT_ hb); clear HO_233000; clear HO_233001; clear HO_233003; clear BK228; clear BK232; clear HB; have HO_233000 := n0_; have HO_233001 := n1_; have HO_233003 := n2_; have BK228 := n3_; have BK232 := n4_; have HB := n5_; clear n0_ n1_ n2_ n3_ n4_ n5_; (try clear hb); (try clear hb2); (try clear hk); (try clear hi)) | (go_at_call 10; (with_reducible refine (ferrylaw04_awake.calls kj20  t256 _ A132.out).mono ?_); rintro e w140 ⟨rfl, hb⟩; have n0_ := Aside0.mk (Kd.V_below (vT_ HO_233000.out) hb); have n1_ := Aside0.mk (Kd.V_below (vT_ HO_233001.out) hb); have n2_ := Aside0.mk (Kd.V_below (vT_ HO_233003.out) hb); have n3_ := Aside0.mk (blk_below (g := gb228) (o := .cells #[.slice A0_0 l0_0.length c0_0, .slice A0_1 l0_1.length c0_1, .int .u64 a0_2, .slice A0_3 l0_3.length c0_3] 29 (0, 0)) (bT_ BK228.out) hb); have n4_ := Aside0.mk (blk_below (g := gb232) (o := .cells #[.slice Ao136 x233000_20.length co136, .slice Ao137 x233001_20.length co137, .int .u64 x233002_20, .slice Ao138 x233003_20.length co138] 29 (0, 0)) (bT_ BK232.out) hb); have n5_ := Aside0.mk (below_step beT_ hb); clear HO_233000; clear HO_233001; clear HO_233003; clear BK228; clear BK232; clear HB; have HO_233000 := n0_; have HO_233001 := n1_; have HO_233003 := n2_; have BK228 := n3_; have BK232 := n4_; have HB := n5_; clear n0_ n1_ n2_ n3_ n4_ n5_; (try clear hb); (try clear hb2); (try clear hk); (try clear hi)))
            go_ret
            exact ⟨by first | rfl | (simp [errW_none, errW_some] <;> rfl) | (simp [*, errW_none, errW_some] <;> rfl), by repeat (first | (with_reducible first | exact HB.out | apply below_alloc | apply pw_below_drewN | apply below_drew1 | refine below_set ?_ GE228.out | refine below_set ?_ GE232.out) | exact HB.out)⟩
          replace c131 := Bool.eq_false_iff.mpr c131
          subst c131
          have H1 : (none) = some r := by rw [if_neg (show ¬ (false = true) by decide)] at H; exact H
          clear H
          have H := H1
          clear H1
          exact absurd H (by simp)

end Go.Proofs.Ytjhfglpgpicmiaa.F
end
