import Derived.Below
import Derived.Deep.Draws
import Derived.Deep.AppendLies
import Derived.Maps.AppendAt
import Derived.OwnWalk
import Derived.Laws.BytesArg
import Derived.Laws.MakeOwn
import Derived.Laws.OwnMore
import Derived.Deep.OwnRows
import Derived.Tactics
import Derived.Lib.ConvBytes
import Derived.Laws.Slices
import Derived.WalkKit
import Derived.KernelRfl
import Derived.RowKit3
import Derived.Deep.LoopGhost
import Derived.Deep.QuietTactic
import Derived.BigQuiet
import Derived.WideLaws
import Derived.Deep.DeepCutAuto
import Derived.Deep.CutBlock
import Derived.Deep.RegionHeld3
import Derived.Laws.Rows
import Derived.Lib.AppendStr
import Derived.ArgAppend
import Derived.Laws.IdiomCopy
import Derived.RowKit
import Derived.OrdersHeld
import Derived.Laws.BitsLemmas
import Derived.Laws.StructEq
import Derived.OwnWalkIn
import Derived.WalkSmall
import Derived.Laws.ResultCell
import Derived.ProofKit
import Derived.Lib.Hide
import Derived.Shelf.RegionOpen
import Derived.Shelf.Abstract
import Derived.Lib.SliceRun
import Derived.Shelf.Spec.SlicesInsertGrow
import Derived.OpenShut
import Derived.Deep.Slices
import Derived.SizedLaws
import Derived.Test.YtjhfglpgpicmiaaZF0
import Derived.Test.YtjhfglpgpicmiaaYA0
import Derived.Test.YtjhfglpgpicmiaaYA4HHost3
import Derived.Test.YtjhfglpgpicmiaaYA5
import Derived.Test.YtjhfglpgpicmiaaYA6HHost11
import Derived.Test.YtjhfglpgpicmiaaYA9
import Derived.Test.YtjhfglpgpicmiaaYA11
import Derived.Test.YtjhfglpgpicmiaaYA13
import Derived.Test.YtjhfglpgpicmiaaYF24
section
namespace Go.Proofs.Ytjhfglpgpicmiaa.F
open Go.RowKit Go.Shelf Go.Proofs.YtjhfglpgpicmiaaW.PrintWords Go.Proofs.YtjhfglpgpicmiaaW.PrintLast Go.Proofs.YtjhfglpgpicmiaaW.PrintMore
set_option linter.unusedVariables false
set_option linter.unusedSimpArgs false
theorem mapped_l0 (a : Int) (l : List SM) (hl : l.length ≤ 1000000) : ∀ (k i : Nat), i ≤ l.length → l.length - i < k → guest_mapped.l0 k a l (l.length : Int) (i : Int) = some (mappedS (l.drop i) a)
  | 0, i, _, h => by omega
  | k + 1, i, hi, h => by
    unfold guest_mapped.l0
    by_cases hlt : i < l.length
    · have hw : wrap64 ((i : Int) + 1) = ((i + 1 : Nat) : Int) := by unfold wrap64; omega
      rw [if_pos (by omega), if_pos (by omega), if_pos (by omega), mp_getR hlt, hw, mapped_l0 a l hl k (i + 1) hlt (by omega), List.drop_eq_getElem_cons hlt]
      unfold mappedS
      have e1 : has mpK a (l[i] :: l.drop (i + 1)) = (decide (l[i].f0 = a) || has mpK a (l.drop (i + 1))) := rfl
      have e2 : prt (l[i] :: l.drop (i + 1)) a = if l[i].f0 = a then l[i].f1 else prt (l.drop (i + 1)) a := rfl
      rw [e1, e2]
      by_cases hx : l[i].f0 = a
      · rw [if_pos hx, if_pos hx, decide_eq_true hx, Bool.true_or, if_pos rfl]
      rw [if_neg hx, if_neg hx, decide_eq_false hx, Bool.false_or]
    rw [if_neg (by omega), List.drop_eq_nil_of_le (by omega)]
    rfl
theorem mapped_f (a : Int) (l : List SM) (m : List SC) (hl : l.length ≤ 1000000) : guest_mapped.f (l.length + 1) l m a = some (mappedS l a) := mapped_l0 a l hl _ 0 (Nat.zero_le _) (by omega)
theorem reach_f (l : List SM) (m : List SC) (b : Int) (p : List SP) (a : Int) : guest_reach.f l m b p a = some (reachS b a) := by
  unfold guest_reach.f reachS
  by_cases h : IntKind.u64.wrap (a - b) < 4294967296
  · rw [if_pos h, decide_eq_true h, Bool.true_and]
  rw [if_neg h, decide_eq_false h, Bool.false_and]
theorem prot_f (l : List SM) (m : List SC) (b : Int) {p : List SP} (hp : p.length ≤ 1000000) (hr : Rises pgK p) (n : Int) : guest_Prot.f l m b p n = some (protP p n) := by
  unfold guest_Prot.f protP
  rw [at_f hp hr, Option.bind_some]
  dsimp only
  cases hh : has pgK n p with
  | false => rw [if_neg (by decide), if_neg (by decide)]
  | true =>
    obtain ⟨hj, h3, h4⟩ := low_hit (val := fun x : SP => x.f1) hr hh
    rw [if_pos rfl, if_pos (by omega), if_pos (by omega), pg_getR hj, if_pos rfl]
    exact congrArg some h4
set_option maxHeartbeats 8000000 in
set_option maxRecDepth 100000 in
theorem gfit_1.calls (A0_0 : Option Addr) (c0_0 : Nat) (l0_0 : List SM) (A0_1 : Option Addr) (c0_1 : Nat) (l0_1 : List SC) (a0_2 : Int) (A0_3 : Option Addr) (c0_3 : Nat) (l0_3 : List SP) (x : SP) (b : Nat) (w : World) (hr0_0 : Kd.C k55 w A0_0 l0_0.length l0_0) (hc0_0 : l0_0.length ≤ c0_0) (hr0_1 : Kd.C k60 w A0_1 l0_1.length l0_1) (hc0_1 : l0_1.length ≤ c0_1) (hr0_3 : Kd.C k39 w A0_3 l0_3.length l0_3) (hc0_3 : l0_3.length ≤ c0_3) (hb : w.heap[b]? = some (.cells #[.slice A0_0 l0_0.length c0_0, .slice A0_1 l0_1.length c0_1, .int .u64 a0_2, .slice A0_3 l0_3.length c0_3] 29 (0, 0))) (hl : l0_0.length ≤ 1000000) (hm : l0_1.length ≤ 1000000) (hp : l0_3.length ≤ 1000000) (hs : Rises pgK l0_3) :
    Calls Try.prog 51 #[.agg #[.int .u32 x.f0, .int .i64 x.f1], .pointer (some ⟨b, 0, none⟩)] w fun e w' => e = .returned (.bool (lostB l0_0 a0_2 x)) ∧ Below w.heap.size w w' := by
  have HO := Lib.hid (fun W (hB : Below w.heap.size w W) => guest_hostOf.calls A0_0 c0_0 l0_0 A0_1 c0_1 l0_1 a0_2 A0_3 c0_3 l0_3 x.f0 (hoS a0_2 x.f0) W (Kd.C_below hr0_0 hB) hc0_0 (Kd.C_below hr0_1 hB) hc0_1 (Kd.C_below hr0_3 hB) hc0_3 rfl)
  have MP := Lib.hid (fun W (hB : Below w.heap.size w W) => guest_mapped.calls (l0_0.length + 1) A0_0 c0_0 l0_0 A0_1 c0_1 l0_1 (hoS a0_2 x.f0) _ W (Kd.C_below hr0_0 hB) hc0_0 (Kd.C_below hr0_1 hB) hc0_1 (mapped_f _ l0_0 l0_1 hl))
  have BK1 := Lib.hid hb
  clear hb hr0_0 hr0_1 hr0_3
  have mixed : Try.prog.follows Departure.mixedOrders = true := by kernel_rfl
  have hu := Try.underlying29
  have hu2 := Try.underlying39
  have hu3 := Try.underlying25
  generalize hF : lostB l0_0 a0_2 x = r
  have EF := Lib.hid hF
  clear hF
  have CH := Lib.hid (show Chain [w] w from ⟨Below.refl _ _, trivial⟩)
  go_enter Try.func51, Try.ntmps51
  go_upto_region 1 with (fail)
  replace CH := Lib.hid (CH.out.alloc (.cells #[.int .u32 x.f0, .int .i64 x.f1] 39))
  have BK2 := Lib.hid (blk_new w (.cells #[.int .u32 x.f0, .int .i64 x.f1] 39))
  generalize w.alloc (.cells #[.int .u32 x.f0, .int .i64 x.f1] 39) = y1 at CH BK2 ⊢
  replace CH := Lib.hid CH.out.push
  replace CH := Lib.hid CH.out.drew
  refine start_ (n := 9) (S := fun w' => w'.cell? ⟨b, 0, none⟩ = some (.slice A0_0 l0_0.length c0_0) ∧ w'.cell? ⟨b, 1, none⟩ = some (.slice A0_1 l0_1.length c0_1) ∧ w'.cell? ⟨b, 2, none⟩ = some (.int .u64 a0_2) ∧ w'.cell? ⟨b, 3, none⟩ = some (.slice A0_3 l0_3.length c0_3) ∧ w'.cell? ⟨w.heap.size, 0, none⟩ = some (.int .u32 x.f0) ∧ w'.cell? ⟨w.heap.size, 1, none⟩ = some (.int .i64 x.f1)) (ds := []) (ms_ 9 0) (by kernel_rfl) rfl rfl ⟨((box_cell BK1.out CH.out.tail.head 0).trans rfl), ((box_cell BK1.out CH.out.tail.head 1).trans rfl), ((box_cell BK1.out CH.out.tail.head 2).trans rfl), ((box_cell BK1.out CH.out.tail.head 3).trans rfl), ((box_cell BK2.out CH.out.head 0).trans rfl), ((box_cell BK2.out CH.out.head 1).trans rfl)⟩ (fun hHeld => ?_)
  refine with_tabW gfit_1.tab1 gfit_1.bits1 (fun HT_ HW_ => ?_)
  refine pS_ 0 4 (mb_ 9 1) ?_
  refine pS_ 3 7 (mb_ 9 9) ?_
  refine t6S_ 1 5 (mb_ 9 11) ?_
  refine t6S_ 2 6 (mb_ 9 15) ?_
  refine t6S_ 4 8 (mb_ 9 31) ?_
  refine one_ (i := 5) (N := some 9) (mb_ 9 63) rfl rfl (one_of HT_.out (by kernel_rfl)) (by decide) (fun K hK => ?_)
  refine goes_ Try.func33 (by kernel_rfl) rfl #[.agg #[.slice A0_0 l0_0.length c0_0, .slice A0_1 l0_1.length c0_1, .int .u64 a0_2, .slice A0_3 l0_3.length c0_3], .int .u32 x.f0] (by rfl) rfl rfl (by simp only [List.map_toArray, List.map_cons, List.map_nil]; rfl) ?_
  with_reducible refine (HO.out _ CH.out.tail.head).mono ?_
  rintro e wx ⟨rfl, hb⟩
  refine ⟨_, rfl, ?_⟩
  replace CH := Lib.hid (CH.out.step hb)
  clear hb
  refine hK.out _ _ ⟨((box_cell BK1.out CH.out.tail.head 0).trans rfl), ((box_cell BK1.out CH.out.tail.head 1).trans rfl), ((box_cell BK1.out CH.out.tail.head 2).trans rfl), ((box_cell BK1.out CH.out.tail.head 3).trans rfl), ((box_cell BK2.out CH.out.head 0).trans rfl), ((box_cell BK2.out CH.out.head 1).trans rfl)⟩ (fun hHeld => ?_)
  clear hK K
  refine nS_ ?_
  refine one_ (i := 6) (N := some 10) (mb_ 9 127) rfl rfl (one_of HT_.out (by kernel_rfl)) (by decide) (fun K hK => ?_)
  refine goes_ Try.func52 (by kernel_rfl) rfl #[.agg #[.slice A0_0 l0_0.length c0_0, .slice A0_1 l0_1.length c0_1], .int .u64 (hoS a0_2 x.f0)] (by rfl) rfl rfl (by simp only [List.map_toArray, List.map_cons, List.map_nil]; rfl) ?_
  with_reducible refine (MP.out _ CH.out.tail.head).mono ?_
  rintro e wx ⟨rfl, hb⟩
  refine ⟨_, rfl, ?_⟩
  replace CH := Lib.hid (CH.out.step hb)
  clear hb
  refine hK.out _ _ ⟨((box_cell BK1.out CH.out.tail.head 0).trans rfl), ((box_cell BK1.out CH.out.tail.head 1).trans rfl), ((box_cell BK1.out CH.out.tail.head 2).trans rfl), ((box_cell BK1.out CH.out.tail.head 3).trans rfl), ((box_cell BK2.out CH.out.head 0).trans rfl), ((box_cell BK2.out CH.out.head 1).trans rfl)⟩ (fun hHeld => ?_)
  clear hK K
  refine nS_ ?_
  refine pS_ 7 11 (mb_ 9 255) ?_
  refine pS_ 8 3 (mb_ 9 511) ?_
  refine done_ (done_of HT_.out (by kernel_rfl)) ?_
  go_wp2
  go_ret
  exact ⟨by rw [← EF.out]; first | rfl | (unfold lostB; simp), CH.out.tail.head⟩

set_option maxHeartbeats 8000000 in
set_option maxRecDepth 100000 in
theorem gfit_2.calls (A0_0 : Option Addr) (c0_0 : Nat) (l0_0 : List SM) (A0_1 : Option Addr) (c0_1 : Nat) (l0_1 : List SC) (a0_2 : Int) (A0_3 : Option Addr) (c0_3 : Nat) (l0_3 : List SP) (x : SM) (b : Nat) (w : World) (hr0_0 : Kd.C k55 w A0_0 l0_0.length l0_0) (hc0_0 : l0_0.length ≤ c0_0) (hr0_1 : Kd.C k60 w A0_1 l0_1.length l0_1) (hc0_1 : l0_1.length ≤ c0_1) (hr0_3 : Kd.C k39 w A0_3 l0_3.length l0_3) (hc0_3 : l0_3.length ≤ c0_3) (hb : w.heap[b]? = some (.cells #[.slice A0_0 l0_0.length c0_0, .slice A0_1 l0_1.length c0_1, .int .u64 a0_2, .slice A0_3 l0_3.length c0_3] 29 (0, 0))) (hl : l0_0.length ≤ 1000000) (hm : l0_1.length ≤ 1000000) (hp : l0_3.length ≤ 1000000) (hs : Rises pgK l0_3) :
    Calls Try.prog 53 #[.agg #[.int .u64 x.f0, .int .i64 x.f1], .pointer (some ⟨b, 0, none⟩)] w fun e w' => e = .returned (.bool (idleB l0_3 a0_2 x)) ∧ Below w.heap.size w w' := by
  have RE := Lib.hid (fun W (hB : Below w.heap.size w W) => guest_reach.calls A0_0 c0_0 l0_0 A0_1 c0_1 l0_1 a0_2 A0_3 c0_3 l0_3 (IntKind.u64.wrap (x.f0 * 16384)) _ W (Kd.C_below hr0_0 hB) hc0_0 (Kd.C_below hr0_1 hB) hc0_1 (Kd.C_below hr0_3 hB) hc0_3 (reach_f l0_0 l0_1 a0_2 l0_3 _))
  have US := Lib.hid (fun W (hB : Below w.heap.size w W) => guest_used.calls A0_0 c0_0 l0_0 A0_1 c0_1 l0_1 a0_2 A0_3 c0_3 l0_3 x.f0 _ W (Kd.C_below hr0_0 hB) hc0_0 (Kd.C_below hr0_1 hB) hc0_1 (Kd.C_below hr0_3 hB) hc0_3 (used_f l0_0 l0_1 a0_2 hp hs _))
  have BK1 := Lib.hid hb
  clear hb hr0_0 hr0_1 hr0_3
  have mixed : Try.prog.follows Departure.mixedOrders = true := by kernel_rfl
  have hu := Try.underlying29
  have hu2 := Try.underlying55
  have hu3 := Try.underlying25
  generalize hF : idleB l0_3 a0_2 x = r
  have EF := Lib.hid hF
  clear hF
  have CH := Lib.hid (show Chain [w] w from ⟨Below.refl _ _, trivial⟩)
  go_enter Try.func53, Try.ntmps53
  go_upto_region 1 with (fail)
  replace CH := Lib.hid (CH.out.alloc (.cells #[.int .u64 x.f0, .int .i64 x.f1] 55))
  have BK2 := Lib.hid (blk_new w (.cells #[.int .u64 x.f0, .int .i64 x.f1] 55))
  generalize w.alloc (.cells #[.int .u64 x.f0, .int .i64 x.f1] 55) = y1 at CH BK2 ⊢
  replace CH := Lib.hid CH.out.push
  have EF2 := EF.out
  unfold idleB at EF2
  cases ht : reachS a0_2 (IntKind.u64.wrap (x.f0 * 16384))
  · skip
    rw [ht] at EF2
    have EF3 := Lib.hid EF2
    clear EF2 EF
    have q1_0 := (box_cell BK1.out CH.out.tail.head 0).trans rfl
    have q1_1 := (box_cell BK1.out CH.out.tail.head 1).trans rfl
    have q1_2 := (box_cell BK1.out CH.out.tail.head 2).trans rfl
    have q1_3 := (box_cell BK1.out CH.out.tail.head 3).trans rfl
    have q2_0 := (box_cell BK2.out CH.out.head 0).trans rfl
    have q2_1 := (box_cell BK2.out CH.out.head 1).trans rfl
    go_wp2_with (first | (go_at_call 54; (with_reducible refine (RE.out _ CH.out.tail.head).mono ?_); rintro e wx ⟨rfl, hb⟩; replace CH := Lib.hid (CH.out.step hb); clear hb; have q1_0 := (box_cell BK1.out CH.out.tail.head 0).trans rfl; have q1_1 := (box_cell BK1.out CH.out.tail.head 1).trans rfl; have q1_2 := (box_cell BK1.out CH.out.tail.head 2).trans rfl; have q1_3 := (box_cell BK1.out CH.out.tail.head 3).trans rfl; have q2_0 := (box_cell BK2.out CH.out.head 0).trans rfl; have q2_1 := (box_cell BK2.out CH.out.head 1).trans rfl))
    go_ret
    exact ⟨by rw [← EF3.out]; first | rfl | simp, CH.out.tail.head⟩
  rw [ht] at EF2
  have EF3 := Lib.hid EF2
  clear EF2 EF
  have q1_0 := (box_cell BK1.out CH.out.tail.head 0).trans rfl
  have q1_1 := (box_cell BK1.out CH.out.tail.head 1).trans rfl
  have q1_2 := (box_cell BK1.out CH.out.tail.head 2).trans rfl
  have q1_3 := (box_cell BK1.out CH.out.tail.head 3).trans rfl
  have q2_0 := (box_cell BK2.out CH.out.head 0).trans rfl
  have q2_1 := (box_cell BK2.out CH.out.head 1).trans rfl
  go_wp2_with (first | (go_at_call 54; (with_reducible refine (RE.out _ CH.out.tail.head).mono ?_); rintro e wx ⟨rfl, hb⟩; replace CH := Lib.hid (CH.out.step hb); clear hb; have q1_0 := (box_cell BK1.out CH.out.tail.head 0).trans rfl; have q1_1 := (box_cell BK1.out CH.out.tail.head 1).trans rfl; have q1_2 := (box_cell BK1.out CH.out.tail.head 2).trans rfl; have q1_3 := (box_cell BK1.out CH.out.tail.head 3).trans rfl; have q2_0 := (box_cell BK2.out CH.out.head 0).trans rfl; have q2_1 := (box_cell BK2.out CH.out.head 1).trans rfl) | (go_at_call 34; (with_reducible refine (US.out _ CH.out.tail.head).mono ?_); rintro e wx ⟨rfl, hb⟩; replace CH := Lib.hid (CH.out.step hb); clear hb; have q1_0 := (box_cell BK1.out CH.out.tail.head 0).trans rfl; have q1_1 := (box_cell BK1.out CH.out.tail.head 1).trans rfl; have q1_2 := (box_cell BK1.out CH.out.tail.head 2).trans rfl; have q1_3 := (box_cell BK1.out CH.out.tail.head 3).trans rfl; have q2_0 := (box_cell BK2.out CH.out.head 0).trans rfl; have q2_1 := (box_cell BK2.out CH.out.head 1).trans rfl))
  go_ret
  exact ⟨by rw [← EF3.out]; first | rfl | simp, CH.out.tail.head⟩

set_option maxHeartbeats 8000000 in
set_option maxRecDepth 100000 in
theorem gfit_3.calls (A0_0 : Option Addr) (c0_0 : Nat) (l0_0 : List SM) (A0_1 : Option Addr) (c0_1 : Nat) (l0_1 : List SC) (a0_2 : Int) (A0_3 : Option Addr) (c0_3 : Nat) (l0_3 : List SP) (x : SC) (b : Nat) (w : World) (hr0_0 : Kd.C k55 w A0_0 l0_0.length l0_0) (hc0_0 : l0_0.length ≤ c0_0) (hr0_1 : Kd.C k60 w A0_1 l0_1.length l0_1) (hc0_1 : l0_1.length ≤ c0_1) (hr0_3 : Kd.C k39 w A0_3 l0_3.length l0_3) (hc0_3 : l0_3.length ≤ c0_3) (hb : w.heap[b]? = some (.cells #[.slice A0_0 l0_0.length c0_0, .slice A0_1 l0_1.length c0_1, .int .u64 a0_2, .slice A0_3 l0_3.length c0_3] 29 (0, 0))) (hl : l0_0.length ≤ 1000000) (hm : l0_1.length ≤ 1000000) (hp : l0_3.length ≤ 1000000) (hs : Rises pgK l0_3) :
    Calls Try.prog 55 #[.agg #[.int .u64 x.f0, .int .u64 x.f1], .pointer (some ⟨b, 0, none⟩)] w fun e w' => e = .returned (.bool (strayB l0_3 a0_2 x)) ∧ Below w.heap.size w w' := by
  have RE := Lib.hid (fun W (hB : Below w.heap.size w W) => guest_reach.calls A0_0 c0_0 l0_0 A0_1 c0_1 l0_1 a0_2 A0_3 c0_3 l0_3 (x.f0) _ W (Kd.C_below hr0_0 hB) hc0_0 (Kd.C_below hr0_1 hB) hc0_1 (Kd.C_below hr0_3 hB) hc0_3 (reach_f l0_0 l0_1 a0_2 l0_3 _))
  have PR := Lib.hid (fun W (hB : Below w.heap.size w W) => guest_Prot.calls A0_0 c0_0 l0_0 A0_1 c0_1 l0_1 a0_2 A0_3 c0_3 l0_3 ((IntKind.u64.wrap (Int.tdiv (IntKind.u64.wrap (x.f0 - a0_2)) 4096)) % 4294967296) _ W (Kd.C_below hr0_0 hB) hc0_0 (Kd.C_below hr0_1 hB) hc0_1 (Kd.C_below hr0_3 hB) hc0_3 (prot_f l0_0 l0_1 a0_2 hp hs _))
  have BK1 := Lib.hid hb
  clear hb hr0_0 hr0_1 hr0_3
  have mixed : Try.prog.follows Departure.mixedOrders = true := by kernel_rfl
  have hu := Try.underlying29
  have hu2 := Try.underlying60
  have hu3 := Try.underlying25
  generalize hF : strayB l0_3 a0_2 x = r
  have EF := Lib.hid hF
  clear hF
  have CH := Lib.hid (show Chain [w] w from ⟨Below.refl _ _, trivial⟩)
  go_enter Try.func55, Try.ntmps55
  go_upto_region 1 with (fail)
  replace CH := Lib.hid (CH.out.alloc (.cells #[.int .u64 x.f0, .int .u64 x.f1] 60))
  have BK2 := Lib.hid (blk_new w (.cells #[.int .u64 x.f0, .int .u64 x.f1] 60))
  generalize w.alloc (.cells #[.int .u64 x.f0, .int .u64 x.f1] 60) = y1 at CH BK2 ⊢
  replace CH := Lib.hid CH.out.push
  have EF2 := EF.out
  unfold strayB at EF2
  cases ht : reachS a0_2 x.f0
  · skip
    rw [ht] at EF2
    have EF3 := Lib.hid EF2
    clear EF2 EF
    have q1_0 := (box_cell BK1.out CH.out.tail.head 0).trans rfl
    have q1_1 := (box_cell BK1.out CH.out.tail.head 1).trans rfl
    have q1_2 := (box_cell BK1.out CH.out.tail.head 2).trans rfl
    have q1_3 := (box_cell BK1.out CH.out.tail.head 3).trans rfl
    have q2_0 := (box_cell BK2.out CH.out.head 0).trans rfl
    have q2_1 := (box_cell BK2.out CH.out.head 1).trans rfl
    go_wp2_with (first | (go_at_call 54; (with_reducible refine (RE.out _ CH.out.tail.head).mono ?_); rintro e wx ⟨rfl, hb⟩; replace CH := Lib.hid (CH.out.step hb); clear hb; have q1_0 := (box_cell BK1.out CH.out.tail.head 0).trans rfl; have q1_1 := (box_cell BK1.out CH.out.tail.head 1).trans rfl; have q1_2 := (box_cell BK1.out CH.out.tail.head 2).trans rfl; have q1_3 := (box_cell BK1.out CH.out.tail.head 3).trans rfl; have q2_0 := (box_cell BK2.out CH.out.head 0).trans rfl; have q2_1 := (box_cell BK2.out CH.out.head 1).trans rfl))
    go_ret
    exact ⟨by rw [← EF3.out]; first | rfl | simp, CH.out.tail.head⟩
  rw [ht] at EF2
  have EF3 := Lib.hid EF2
  clear EF2 EF
  have q1_0 := (box_cell BK1.out CH.out.tail.head 0).trans rfl
  have q1_1 := (box_cell BK1.out CH.out.tail.head 1).trans rfl
  have q1_2 := (box_cell BK1.out CH.out.tail.head 2).trans rfl
  have q1_3 := (box_cell BK1.out CH.out.tail.head 3).trans rfl
  have q2_0 := (box_cell BK2.out CH.out.head 0).trans rfl
  have q2_1 := (box_cell BK2.out CH.out.head 1).trans rfl
  go_wp2_with (first | (go_at_call 54; (with_reducible refine (RE.out _ CH.out.tail.head).mono ?_); rintro e wx ⟨rfl, hb⟩; replace CH := Lib.hid (CH.out.step hb); clear hb; have q1_0 := (box_cell BK1.out CH.out.tail.head 0).trans rfl; have q1_1 := (box_cell BK1.out CH.out.tail.head 1).trans rfl; have q1_2 := (box_cell BK1.out CH.out.tail.head 2).trans rfl; have q1_3 := (box_cell BK1.out CH.out.tail.head 3).trans rfl; have q2_0 := (box_cell BK2.out CH.out.head 0).trans rfl; have q2_1 := (box_cell BK2.out CH.out.head 1).trans rfl) | (go_at_call 25; (with_reducible refine (PR.out _ CH.out.tail.head).mono ?_); rintro e wx ⟨rfl, hb⟩; replace CH := Lib.hid (CH.out.step hb); clear hb; have q1_0 := (box_cell BK1.out CH.out.tail.head 0).trans rfl; have q1_1 := (box_cell BK1.out CH.out.tail.head 1).trans rfl; have q1_2 := (box_cell BK1.out CH.out.tail.head 2).trans rfl; have q1_3 := (box_cell BK1.out CH.out.tail.head 3).trans rfl; have q2_0 := (box_cell BK2.out CH.out.head 0).trans rfl; have q2_1 := (box_cell BK2.out CH.out.head 1).trans rfl))
  go_ret
  exact ⟨by rw [← EF3.out]; first | rfl | simp, CH.out.tail.head⟩
end Go.Proofs.Ytjhfglpgpicmiaa.F
end
section
namespace Go.Proofs.Ytjhfglpgpicmiaa.F
open Go.RowKit Go.Shelf Go.Proofs.YtjhfglpgpicmiaaW.PrintWords Go.Proofs.YtjhfglpgpicmiaaW.PrintLast Go.Proofs.YtjhfglpgpicmiaaW.PrintMore
set_option linter.unusedVariables false
section
variable {W : World} {v0 v1 : Value} {l : List SM} {m : List SC} {u0 u1 : Value} {l' : List SM} {m' : List SC}
theorem hFit_L (hH : HostV W v0 v1 l m) (hl : l.length ≤ 1000000 ∧ m.length ≤ 1000000) : Calls Try.prog 49 #[.agg #[v0, v1]] W fun e w' => e = .returned (.bool (fitB l m)) ∧ Below W.heap.size W w' := by
  obtain ⟨⟨A, c, rfl, hc, hC⟩, ⟨A', c', rfl, hc', hC'⟩⟩ := hH
  exact host_Fit.calls A c l A' c' m _ W hC hc hC' hc' (by unfold host_Fit.f; rw [if_pos hl])
end
end Go.Proofs.Ytjhfglpgpicmiaa.F
end
