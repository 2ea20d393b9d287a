import Derived.Below
import Derived.Deep.Draws
import Derived.Deep.AppendLies
import Derived.Maps.AppendAt
import Derived.OwnWalk
import Derived.Laws.BytesArg
import Derived.Laws.MakeOwn
import Derived.Laws.OwnMore
import Derived.Deep.OwnRows
import Derived.Tactics
import Derived.Lib.ConvBytes
import Derived.Laws.Slices
import Derived.WalkKit
import Derived.KernelRfl
import Derived.RowKit3
import Derived.Deep.LoopGhost
import Derived.Deep.QuietTactic
import Derived.BigQuiet
import Derived.WideLaws
import Derived.Deep.DeepCutAuto
import Derived.Deep.CutBlock
import Derived.Deep.RegionHeld3
import Derived.Laws.Rows
import Derived.Lib.AppendStr
import Derived.ArgAppend
import Derived.Laws.IdiomCopy
import Derived.RowKit
import Derived.OrdersHeld
import Derived.Laws.BitsLemmas
import Derived.Laws.StructEq
import Derived.Test.YtlmmipdgedfboaaZF0
import Derived.Test.YtlmmipdgedfboaaYA11Twice
import Derived.Test.YtlmmipdgedfboaaYC43FFerryref03Word
section
namespace Go.Proofs.Ytlmmipdgedfboaa.F
open Go.RowKit Go.Proofs.YtlmmipdgedfboaaW.PrintWords Go.Proofs.YtlmmipdgedfboaaW.PrintLast Go.Proofs.YtlmmipdgedfboaaW.PrintMore
attribute [local go_sem] max2_int min2_int max_two min_two max_three min_three max_four min_four
attribute [local go_sem] cell_twice
set_option linter.unusedVariables false
set_option linter.unusedSimpArgs false

mutual
def ferryref03_poke.l0 : Nat → Int → Int → List (S55) → Bool → Int → List (S53) → List (S55) → Option ((List (S53)) × (List (S55)))
  | 0, _, _, _, _, _, _, _ => none
  | k + 1, x7, x9, x10, x11, x12, x274000, x274001 => if x12 < (x274001.length : Int) then (if x11 = true then (ferryref03_poke.j1 k x7 x9 x10 x11 x12 false x274000 x274001) else (if 0 ≤ x12 then (ferryref03_poke.j1 k x7 x9 x10 x11 x12 (decide (((rd_T55 x274001 x12).f0) ≥ x7)) x274000 x274001) else (none))) else (if x11 = true then (some (x274000, x10)) else (if x10.length < 8796093022208 then (some (x274000, (x10 ++ [(⟨x7, x9⟩ : S55)]))) else (none)))
def ferryref03_poke.j1 : Nat → Int → Int → List (S55) → Bool → Int → Bool → List (S53) → List (S55) → Option ((List (S53)) × (List (S55)))
  | 0, _, _, _, _, _, _, _, _ => none
  | k + 1, x7, x9, x10, x11, x12, x51, x274000, x274001 => if x51 = true then (if x10.length < 8796093022208 then ((some (x10 ++ [(⟨x7, x9⟩ : S55)] : List (S55))).bind fun y280 => (if 0 ≤ x12 then (if x12 < (x274001.length : Int) then (if ((rd_T55 x274001 x12).f0) = x7 then (ferryref03_poke.l0 k x7 x9 y280 true (wrap64 (x12 + 1)) x274000 x274001) else (if y280.length < 8796093022208 then (ferryref03_poke.l0 k x7 x9 (y280 ++ [(⟨(rd_T55 x274001 x12).f0, (rd_T55 x274001 x12).f1⟩ : S55)]) true (wrap64 (x12 + 1)) x274000 x274001) else (none))) else (none)) else (none))) else (none)) else (if 0 ≤ x12 then (if x12 < (x274001.length : Int) then (if ((rd_T55 x274001 x12).f0) = x7 then (ferryref03_poke.l0 k x7 x9 x10 x11 (wrap64 (x12 + 1)) x274000 x274001) else (if x10.length < 8796093022208 then (ferryref03_poke.l0 k x7 x9 (x10 ++ [(⟨(rd_T55 x274001 x12).f0, (rd_T55 x274001 x12).f1⟩ : S55)]) x11 (wrap64 (x12 + 1)) x274000 x274001) else (none))) else (none)) else (none))
end
def ferryref03_poke.f (k : Nat) (l0_0 : List (S53)) (l0_1 : List (S55)) (a1 : Int) (a2 : Int) : Option ((List (S53)) × (List (S55))) := (ferryref03_word.f k l0_0 l0_1 (IntKind.u64.wrap (a1 - (Int.tmod a1 8)))).bind fun t275 => (if 0 ≤ (IntKind.u64.wrap (8 * (Int.tmod a1 8))) then (ferryref03_poke.l0 k (IntKind.u64.wrap (a1 - (Int.tmod a1 8))) (Go.bits .or .u64 (Go.bits .andNot .u64 t275 (shl .u64 255 (IntKind.u64.wrap (8 * (Int.tmod a1 8))))) (shl .u64 (IntKind.u64.wrap (a2)) (IntKind.u64.wrap (8 * (Int.tmod a1 8))))) ([] : List (S55)) ((Go.bits .or .u64 (Go.bits .andNot .u64 t275 (shl .u64 255 (IntKind.u64.wrap (8 * (Int.tmod a1 8))))) (shl .u64 (IntKind.u64.wrap (a2)) (IntKind.u64.wrap (8 * (Int.tmod a1 8))))) == 0) 0 l0_0 l0_1) else (none))
set_option maxHeartbeats 8000000 in
set_option maxRecDepth 100000 in
theorem ferryref03_poke.calls (k : Nat) (P0_0_ : Nat → Prop) (A0_0 : Option Addr) (c0_0 : Nat) (l0_0 : List (S53)) (A0_1 : Option Addr) (c0_1 : Nat) (l0_1 : List (S55)) (a1 : Int) (a2 : Int) (r1 : List (S53)) (r2 : List (S55)) (w : World) (hs0_0 : Kd.V k53 53 w w.heap.size (fun k_ => P0_0_ k_) (.slice A0_0 l0_0.length c0_0) l0_0) (hr0_1 : Kd.C k55 w A0_1 l0_1.length l0_1) (hc0_1 : l0_1.length ≤ c0_1) (h : ferryref03_poke.f k l0_0 l0_1 a1 a2 = some (r1, r2)) :
    Calls Try.prog 44 #[.agg #[.slice A0_0 l0_0.length c0_0, .slice A0_1 l0_1.length c0_1], .int .u64 a1, .int .u8 a2] w fun e w' => ∃ v0_ v1_ : Value, e = .returned (.agg #[v0_, v1_]) ∧ Kd.V k53 53 w' w.heap.size (fun k_ => (P0_0_ k_ ∨ w.heap.size ≤ k_) ∧ some k_ ≠ (v1_ : Value).ownBlock) v0_ r1 ∧ Kd.R k55 55 w' w.heap.size (fun k_ => (w.heap.size ≤ k_)) v1_ r2 ∧ Below w.heap.size w w' := by
  have hu25 := Try.underlying25
  have hu55 := Try.underlying55
  have HO0_0 := Aside0.mk (show Kd.V k53 53 w w.heap.size (fun k_ => (P0_0_ k_ ∨ w.heap.size ≤ k_)) (.slice A0_0 l0_0.length c0_0) l0_0 from Kd.V_mono hs0_0 (fun k_ hk => .inl hk))
  have HR0_1 := Aside0.mk hr0_1
  have HC0_1 := Aside0.mk hc0_1
  clear hr0_1 hc0_1
  have HB := Aside0.mk (Below.refl w.heap.size w)
  have H : ((ferryref03_word.f k l0_0 l0_1 (IntKind.u64.wrap (a1 - (Int.tmod a1 8)))).bind fun t275 => (if 0 ≤ (IntKind.u64.wrap (8 * (Int.tmod a1 8))) then (ferryref03_poke.l0 k (IntKind.u64.wrap (a1 - (Int.tmod a1 8))) (Go.bits .or .u64 (Go.bits .andNot .u64 t275 (shl .u64 255 (IntKind.u64.wrap (8 * (Int.tmod a1 8))))) (shl .u64 (IntKind.u64.wrap (a2)) (IntKind.u64.wrap (8 * (Int.tmod a1 8))))) ([] : List (S55)) ((Go.bits .or .u64 (Go.bits .andNot .u64 t275 (shl .u64 255 (IntKind.u64.wrap (8 * (Int.tmod a1 8))))) (shl .u64 (IntKind.u64.wrap (a2)) (IntKind.u64.wrap (8 * (Int.tmod a1 8))))) == 0) 0 l0_0 l0_1) else (none))) = some (r1, r2) := h
  clear h
  replace H := Option.bind_eq_some_iff.mp H
  obtain ⟨t275, A40, H⟩ := H
  replace H : (if 0 ≤ (IntKind.u64.wrap (8 * (Int.tmod a1 8))) then (ferryref03_poke.l0 k (IntKind.u64.wrap (a1 - (Int.tmod a1 8))) (Go.bits .or .u64 (Go.bits .andNot .u64 t275 (shl .u64 255 (IntKind.u64.wrap (8 * (Int.tmod a1 8))))) (shl .u64 (IntKind.u64.wrap (a2)) (IntKind.u64.wrap (8 * (Int.tmod a1 8))))) ([] : List (S55)) ((Go.bits .or .u64 (Go.bits .andNot .u64 t275 (shl .u64 255 (IntKind.u64.wrap (8 * (Int.tmod a1 8))))) (shl .u64 (IntKind.u64.wrap (a2)) (IntKind.u64.wrap (8 * (Int.tmod a1 8))))) == 0) 0 l0_0 l0_1) else (none)) = some (r1, r2) := H
  have A4 := Aside0.mk A40
  clear A40
  obtain ⟨ji5, hji5⟩ : ∃ j_ : Int, (IntKind.u64.wrap (8 * (Int.tmod a1 8))) = j_ := ⟨_, rfl⟩
  replace H : (if 0 ≤ (ji5) then (ferryref03_poke.l0 k (IntKind.u64.wrap (a1 - (Int.tmod a1 8))) (Go.bits .or .u64 (Go.bits .andNot .u64 t275 (shl .u64 255 (ji5))) (shl .u64 (IntKind.u64.wrap (a2)) (ji5))) ([] : List (S55)) ((Go.bits .or .u64 (Go.bits .andNot .u64 t275 (shl .u64 255 (ji5))) (shl .u64 (IntKind.u64.wrap (a2)) (ji5))) == 0) 0 l0_0 l0_1) else (none)) = some (r1, r2) := by first | (rw [hji5] at H; exact H) | (simp only [hji5] at H ⊢; exact H)
  (try rw [hji5] at A4)
  by_cases c6 : 0 ≤ (ji5)
  · rw [if_pos c6] at H
    have c6b0 := eq_true c6
    have c6b1 : decide (0 ≤ (ji5)) = true := decide_eq_true c6
    clear c6
    obtain ⟨ji7, hji7⟩ : ∃ j_ : Int, (shl .u64 255 (ji5)) = j_ := ⟨_, rfl⟩
    replace H : (ferryref03_poke.l0 k (IntKind.u64.wrap (a1 - (Int.tmod a1 8))) (Go.bits .or .u64 (Go.bits .andNot .u64 t275 (ji7)) (shl .u64 (IntKind.u64.wrap (a2)) (ji5))) ([] : List (S55)) ((Go.bits .or .u64 (Go.bits .andNot .u64 t275 (ji7)) (shl .u64 (IntKind.u64.wrap (a2)) (ji5))) == 0) 0 l0_0 l0_1) = some (r1, r2) := by first | (rw [hji7] at H; exact H) | (simp only [hji7] at H ⊢; exact H)
    (try rw [hji7] at A4)
    have hji7_ : (IntKind.u64.wrap (255 * 2 ^ min (ji5).toNat 64)) = ji7 := hji7
    have hji7z : (ji5) ≤ 64 → (IntKind.u64.wrap (255 * 2 ^ (ji5).toNat)) = ji7 := shl_small hji7
    have c8b0 := eq_true (of_decide_eq_true (by first | (with_reducible assumption) | assumption) : 0 ≤ (ji5))
    obtain ⟨ji9, hji9⟩ : ∃ j_ : Int, (shl .u64 (IntKind.u64.wrap (a2)) (ji5)) = j_ := ⟨_, rfl⟩
    replace H : (ferryref03_poke.l0 k (IntKind.u64.wrap (a1 - (Int.tmod a1 8))) (Go.bits .or .u64 (Go.bits .andNot .u64 t275 (ji7)) (ji9)) ([] : List (S55)) ((Go.bits .or .u64 (Go.bits .andNot .u64 t275 (ji7)) (ji9)) == 0) 0 l0_0 l0_1) = some (r1, r2) := by first | (rw [hji9] at H; exact H) | (simp only [hji9] at H ⊢; exact H)
    (try rw [hji9] at A4)
    have hji9_ : (IntKind.u64.wrap ((IntKind.u64.wrap (a2)) * 2 ^ min (ji5).toNat 64)) = ji9 := hji9
    have hji9z : (ji5) ≤ 64 → (IntKind.u64.wrap ((IntKind.u64.wrap (a2)) * 2 ^ (ji5).toNat)) = ji9 := shl_small hji9
    have H' := Aside0.mk H
    clear H
    go_enter Try.func44, Try.ntmps44
    go_wp2_with (first | ((with_reducible refine gate_dst (N := 3) rfl ?_); refine box_event ?hg (N := 3) ?hd (cs := #[.slice A0_0 l0_0.length c0_0, .slice A0_1 l0_1.length c0_1]) (t := 25) ?hr ?_; (case hd => rfl); (case hg => rfl); (case hr => first | (go_simp; done) | (go_simp; rfl)); intro gb273 hg w10 hbox hb; have n0_ := Aside0.mk (Kd.V_below (Kd.V_elderB (by (with_reducible repeat (first | apply Kd.V_alloc | apply Kd.V_drewN | apply Kd.V_drew)); exact HO0_0.out) gb273 (Nat.le_of_eq hg.symm)) hb); have n1_ := Aside0.mk (below_step (by repeat (first | (with_reducible first | exact HB.out | apply below_alloc | apply pw_below_drewN | apply below_drew1) | exact HB.out)) hb); have n2_ := Aside0.mk (hbox); have n3_ := Aside0.mk ((by rw [hg]; exact (below_size (by repeat (first | (with_reducible first | exact HB.out | apply below_alloc | apply pw_below_drewN | apply below_drew1) | exact HB.out))) : w.heap.size ≤ gb273)); have n4_ := Aside0.mk ((by rw [hg]; exact (below_size (by repeat (first | (with_reducible first | exact HB.out | apply below_alloc | apply pw_below_drewN | apply below_drew1) | exact HB.out))) : w.heap.size ≤ gb273)); clear HO0_0; clear HB; have HO0_0 := n0_; have HB := n1_; have BK273 := n2_; have GW273 := n3_; have GE273 := n4_; clear n0_ n1_ n2_ n3_ n4_; clear hb hbox hg) | ((with_reducible refine gate_dst (N := 6) rfl ?_); refine box_event ?hg (N := 6) ?hd (cs := #[.slice none 0 0, .slice none 0 0]) (t := 25) ?hr ?_; (case hd => rfl); (case hg => rfl); (case hr => first | (go_simp; done) | (go_simp; rfl)); intro gb274 hg w11 hbox hb; have n0_ := Aside0.mk (Kd.V_below (Kd.V_elderB (by (with_reducible repeat (first | apply Kd.V_alloc | apply Kd.V_drewN | apply Kd.V_drew)); exact HO0_0.out) gb274 (Nat.le_of_eq hg.symm)) hb); have n1_ := Aside0.mk (blk_below (g := gb273) (o := .cells #[.slice A0_0 l0_0.length c0_0, .slice A0_1 l0_1.length c0_1] 25 (0, 0)) (by (with_reducible repeat (first | refine blk_drewN ?_ _ | refine blk_drew ?_ | refine blk_alloc ?_ _)); exact BK273.out) hb); have n2_ := Aside0.mk (below_step (by repeat (first | (with_reducible first | exact HB.out | apply below_alloc | apply pw_below_drewN | apply below_drew1 | refine below_set ?_ GE273.out) | exact HB.out)) hb); have n3_ := Aside0.mk (hbox); have n4_ := Aside0.mk ((by rw [hg]; exact (below_size (by repeat (first | (with_reducible first | exact HB.out | apply below_alloc | apply pw_below_drewN | apply below_drew1 | refine below_set ?_ GE273.out) | exact HB.out))) : w.heap.size ≤ gb274)); have n5_ := Aside0.mk ((by rw [hg]; exact (below_size (by repeat (first | (with_reducible first | exact HB.out | apply below_alloc | apply pw_below_drewN | apply below_drew1 | refine below_set ?_ GE273.out) | exact HB.out))) : w.heap.size ≤ gb274)); have n6_ := Aside0.mk ((by rw [hg]; exact Nat.ne_of_lt (blk_lt (g := gb273) (o := .cells #[.slice A0_0 l0_0.length c0_0, .slice A0_1 l0_1.length c0_1] 25 (0, 0)) (by (with_reducible repeat (first | refine blk_drewN ?_ _ | refine blk_drew ?_ | refine blk_alloc ?_ _)); exact BK273.out)) : gb273 ≠ gb274)); have n7_ := Aside0.mk ((by rw [hg]; exact Nat.ne_of_gt (blk_lt (g := gb273) (o := .cells #[.slice A0_0 l0_0.length c0_0, .slice A0_1 l0_1.length c0_1] 25 (0, 0)) (by (with_reducible repeat (first | refine blk_drewN ?_ _ | refine blk_drew ?_ | refine blk_alloc ?_ _)); exact BK273.out)) : gb274 ≠ gb273)); clear HO0_0; clear BK273; clear HB; have HO0_0 := n0_; have BK273 := n1_; have HB := n2_; have BK274 := n3_; have GW274 := n4_; have GE274 := n5_; have NB273_274 := n6_; have NB274_273 := n7_; clear n0_ n1_ n2_ n3_ n4_ n5_ n6_ n7_; clear hb hbox hg; have hnb12 := NB273_274.out; have hnc12 := NB274_273.out; have hcz13_0 : w11.cell? ⟨gb273, 0, none⟩ = some (.slice A0_0 l0_0.length c0_0) := (blk_cell BK273.out 0).trans rfl; have hcz13_1 : w11.cell? ⟨gb273, 1, none⟩ = some (.slice A0_1 l0_1.length c0_1) := (blk_cell BK273.out 1).trans rfl; have hfz13_0 := blk_frozen BK273.out 0; have hfz13_1 := blk_frozen BK273.out 1) | ((with_reducible refine gate_callee (f := 47) rfl ?_); refine goesL_ (some 22) rfl rfl Try.func47 (by kernel_rfl) rfl #[.agg #[.slice A0_0 l0_0.length c0_0, .slice A0_1 l0_1.length c0_1], .int .u64 (IntKind.u64.wrap (a1 - (Int.tmod a1 8)))] rfl (by (try simp only [List.map_toArray, List.map_cons, List.map_nil]); first | done | rfl | (simp only [List.length_drop, List.length_take]; rfl)) ?_; (with_reducible refine (ferryref03_word.calls k _ _ l0_0 _ _ l0_1 (IntKind.u64.wrap (a1 - (Int.tmod a1 8))) t275 _ ?side1 ?side2 ?side3 ?side4 A4.out).mono ?_); (case side1 => repeat (first | exact (Kd.V_reads' HO0_0.out).2.2 | (with_reducible refine Kd.C_alloc ?_ _) | (with_reducible refine Kd.C_drewN ?_ _) | (with_reducible refine Kd.C_drew ?_))); (case side2 => exact (Kd.V_reads' HO0_0.out).2.1); (case side3 => repeat (first | exact (Kd.C_below HR0_1.out HB.out) | (with_reducible refine Kd.C_alloc ?_ _) | (with_reducible refine Kd.C_drewN ?_ _) | (with_reducible refine Kd.C_drew ?_))); (case side4 => exact HC0_1.out); rintro e w14 ⟨rfl, hb⟩; refine ⟨_, rfl, ?_⟩; have n0_ := Aside0.mk (Kd.V_below (by (with_reducible repeat (first | apply Kd.V_alloc | apply Kd.V_drewN | apply Kd.V_drew)); exact HO0_0.out) hb); have n1_ := Aside0.mk (blk_below (g := gb273) (o := .cells #[.slice A0_0 l0_0.length c0_0, .slice A0_1 l0_1.length c0_1] 25 (0, 0)) (by (with_reducible repeat (first | refine blk_drewN ?_ _ | refine blk_drew ?_ | refine blk_alloc ?_ _)); exact BK273.out) hb); have n2_ := Aside0.mk (blk_below (g := gb274) (o := .cells #[.slice none 0 0, .slice none 0 0] 25 (0, 0)) (by (with_reducible repeat (first | refine blk_drewN ?_ _ | refine blk_drew ?_ | refine blk_alloc ?_ _)); exact BK274.out) hb); have n3_ := Aside0.mk (below_step (by repeat (first | (with_reducible first | exact HB.out | apply below_alloc | apply pw_below_drewN | apply below_drew1 | refine below_set ?_ GE273.out | refine below_set ?_ GE274.out) | exact HB.out)) hb); clear HO0_0; clear BK273; clear BK274; clear HB; have HO0_0 := n0_; have BK273 := n1_; have BK274 := n2_; have HB := n3_; clear n0_ n1_ n2_ n3_; (try clear hb); (try clear hb2); (try clear hk); (try clear hi)))
    go_loopg [10, 11, 12] k (fun kq v10 v11 v12 w' => ∃ (x10_1 : List (S55)) (x11_1 : Bool) (x12_1 : Int), v11 = .bool x11_1 ∧ v12 = .int .i64 x12_1 ∧ Aside0 (ferryref03_poke.l0 kq (IntKind.u64.wrap (a1 - (Int.tmod a1 8))) (Go.bits .or .u64 (Go.bits .andNot .u64 t275 (ji7)) (ji9)) x10_1 x11_1 x12_1 l0_0 l0_1 = some (r1, r2)) ∧ Aside0 (kq ≤ k) ∧ Aside0 (Kd.R k55 55 w' w.heap.size (fun k_ => (w.heap.size ≤ k_)) v10 x10_1) ∧ Aside0 (Kd.V k53 53 w' w.heap.size (fun k_ => (P0_0_ k_ ∨ w.heap.size ≤ k_) ∧ some k_ ≠ (v10 : Value).ownBlock ∧ k_ ≠ gb273 ∧ k_ ≠ gb274) (.slice A0_0 l0_0.length c0_0) l0_0) ∧ Aside0 (w'.heap[gb273]? = some (.cells #[(.slice A0_0 l0_0.length c0_0), (.slice A0_1 l0_1.length c0_1)] 25 (0, 0))) ∧ Aside0 (w'.heap[gb274]? = some (.cells #[(.slice none 0 0), (.slice none 0 0)] 25 (0, 0))) ∧ Aside0 (Below w.heap.size w w'))
    case atStart => exact ⟨(([] : List (S55))), (((Go.bits .or .u64 (Go.bits .andNot .u64 t275 (ji7)) (ji9)) == 0)), (0), (by first | rfl | (simp; done) | (simp only [← hji7, ← hji9] <;> (first | rfl | simp)) | (simp [*]; done)), (by first | rfl | (simp; done) | (simp [*]; done)), H', ⟨Nat.le_refl _⟩, ⟨by first | exact Kd.R_nil _ _ _ _ _ | exact Kd.N_nil _ _ _ _ _ | exact Kd.V_nil _ _ _ _ _ | exact Kd.Q_nil _ _ _ _ _ | exact Kd.S_nil _ _ _ _ _⟩, ⟨by (with_reducible repeat (first | apply Kd.V_alloc | apply Kd.V_drewN | apply Kd.V_drew)); exact Kd.V_mono HO0_0.out (fun _ hk => ⟨hk.1.1, ⟨(by simp [Value.ownBlock]), ⟨hk.1.2, hk.2⟩⟩⟩)⟩, ⟨by (with_reducible repeat (first | refine blk_drewN ?_ _ | refine blk_drew ?_ | refine blk_alloc ?_ _)); exact BK273.out⟩, ⟨by (with_reducible repeat (first | refine blk_drewN ?_ _ | refine blk_drew ?_ | refine blk_alloc ?_ _)); exact BK274.out⟩, ⟨by repeat (first | (with_reducible first | exact HB.out | apply below_alloc | apply pw_below_drewN | apply below_drew1 | refine below_set ?_ GE273.out | refine below_set ?_ GE274.out) | exact HB.out)⟩⟩
    case round =>
      clear H'
      try clear c1
      try clear p2
      try clear c4
      try clear c6
      try clear c6b0
      try clear c6b1
      try clear c8
      try clear c8b0
      try clear c12
      try clear hcz13_0
      try clear hcz13_1
      try clear hfz13_0
      try clear hfz13_1
      obtain ⟨x10_1, x11_1, x12_1, rfl, rfl, HA, HK1, HO_10, HO_274000, BK273, BK274, HB⟩ := hrel
      cases gk with
      | zero => exact absurd HA.out (by simp [ferryref03_poke.l0])
      | succ k1 =>
        have H := HA.out
        clear HA
        simp only [ferryref03_poke.l0] at H
        by_cases c15 : x12_1 < (l0_1.length : Int)
        · rw [if_pos c15] at H
          have c15b0 : decide (x12_1 < (l0_1.length : Int)) = true := decide_eq_true c15
          clear c15
          have HC16 := Aside0.mk H
          clear H
          have hnb17 := NB273_274.out
          have hnc17 := NB274_273.out
          have hcz18_0 : wr.cell? ⟨gb273, 0, none⟩ = some (.slice A0_0 l0_0.length c0_0) := (blk_cell BK273.out 0).trans rfl
          have hcz18_1 : wr.cell? ⟨gb273, 1, none⟩ = some (.slice A0_1 l0_1.length c0_1) := (blk_cell BK273.out 1).trans rfl
          have hfz18_0 := blk_frozen BK273.out 0
          have hfz18_1 := blk_frozen BK273.out 1
          go_upto_region 9 with (fail)
          go_cut [51] (fun v51 wc => ∃ (kq : Nat) (x51_15 : Bool), v51 = .bool x51_15 ∧ Aside0 (ferryref03_poke.j1 kq (IntKind.u64.wrap (a1 - (Int.tmod a1 8))) (Go.bits .or .u64 (Go.bits .andNot .u64 t275 (ji7)) (ji9)) x10_1 x11_1 x12_1 x51_15 l0_0 l0_1 = some (r1, r2)) ∧ Aside0 (kq ≤ k1) ∧ Aside0 (Kd.R k55 55 wc w.heap.size (fun k_ => (w.heap.size ≤ k_)) u10 x10_1) ∧ Aside0 (Kd.V k53 53 wc w.heap.size (fun k_ => (P0_0_ k_ ∨ w.heap.size ≤ k_) ∧ some k_ ≠ (u10 : Value).ownBlock ∧ k_ ≠ gb273 ∧ k_ ≠ gb274) (.slice A0_0 l0_0.length c0_0) l0_0) ∧ Aside0 (wc.heap[gb273]? = some (.cells #[(.slice A0_0 l0_0.length c0_0), (.slice A0_1 l0_1.length c0_1)] 25 (0, 0))) ∧ Aside0 (wc.heap[gb274]? = some (.cells #[(.slice none 0 0), (.slice none 0 0)] 25 (0, 0))) ∧ Aside0 (Below w.heap.size w wc))
          case first =>
            have H := HC16.out
            clear HC16
            by_cases c19 : x11_1 = true
            · subst c19
              have H1 : (ferryref03_poke.j1 k1 (IntKind.u64.wrap (a1 - (Int.tmod a1 8))) (Go.bits .or .u64 (Go.bits .andNot .u64 t275 (ji7)) (ji9)) x10_1 true x12_1 false l0_0 l0_1) = some (r1, r2) := by rw [if_pos rfl] at H; exact H
              clear H
              have H := H1
              clear H1
              have H' := Aside0.mk H
              clear H
              go_wp2
              go_meet
              case rel => exact ⟨_, (false), (by first | rfl | (simp; done) | (simp [*]; done)), H', ⟨by have := HK1.out; first | omega | exact Nat.le_refl _⟩, ⟨by (with_reducible repeat (first | apply Kd.R_alloc | apply Kd.R_drewN | apply Kd.R_drew)); exact HO_10.out⟩, ⟨by (with_reducible repeat (first | apply Kd.V_alloc | apply Kd.V_drewN | apply Kd.V_drew)); exact HO_274000.out⟩, ⟨by (with_reducible repeat (first | refine blk_drewN ?_ _ | refine blk_drew ?_ | refine blk_alloc ?_ _)); exact BK273.out⟩, ⟨by (with_reducible repeat (first | refine blk_drewN ?_ _ | refine blk_drew ?_ | refine blk_alloc ?_ _)); exact BK274.out⟩, ⟨by repeat (first | (with_reducible first | exact HB.out | apply below_alloc | apply pw_below_drewN | apply below_drew1 | refine below_set ?_ GE273.out | refine below_set ?_ GE274.out) | exact HB.out)⟩⟩
            · replace c19 := Bool.eq_false_iff.mpr c19
              subst c19
              have H1 : (if 0 ≤ x12_1 then (ferryref03_poke.j1 k1 (IntKind.u64.wrap (a1 - (Int.tmod a1 8))) (Go.bits .or .u64 (Go.bits .andNot .u64 t275 (ji7)) (ji9)) x10_1 false x12_1 (decide (((rd_T55 l0_1 x12_1).f0) ≥ (IntKind.u64.wrap (a1 - (Int.tmod a1 8))))) l0_0 l0_1) else (none)) = some (r1, r2) := by rw [if_neg (show ¬ (false = true) by decide)] at H; exact H
              clear H
              have H := H1
              clear H1
              by_cases c20 : 0 ≤ x12_1
              · rw [if_pos c20] at H
                have c20b0 : decide (0 ≤ x12_1) = true := decide_eq_true c20
                clear c20
                (first | rw [c20b0] | (simp only [i64_w, i32_w]; rw [c20b0]) | skip)
                have H' := Aside0.mk H
                clear H
                have hnb21 := NB273_274.out
                have hnc21 := NB274_273.out
                have hcz22_0 : wr.cell? ⟨gb273, 0, none⟩ = some (.slice A0_0 l0_0.length c0_0) := (blk_cell BK273.out 0).trans rfl
                have hcz22_1 : wr.cell? ⟨gb273, 1, none⟩ = some (.slice A0_1 l0_1.length c0_1) := (blk_cell BK273.out 1).trans rfl
                have hfz22_0 := blk_frozen BK273.out 0
                have hfz22_1 := blk_frozen BK273.out 1
                have p279 : 0 ≤ (x12_1 : Int) := of_decide_eq_true (by first | (with_reducible assumption) | assumption)
                have q279 : x12_1 < (l0_1.length : Int) := of_decide_eq_true (by first | (with_reducible assumption) | assumption)
                obtain ⟨ad279, e279, hx279_0, hx279_1⟩ := at_T55 HR0_1.out x12_1 p279 q279
                cases e279
                replace hx279_0 := (HB.out.cell (World.block_lt_of_cell? w _ hx279_0)).trans hx279_0
                replace hx279_1 := (HB.out.cell (World.block_lt_of_cell? w _ hx279_1)).trans hx279_1
                replace p279 := eq_true p279
                replace q279 := eq_true q279
                go_wp2
                go_meet
                case rel => exact ⟨_, (decide (((rd_T55 l0_1 x12_1).f0) ≥ (IntKind.u64.wrap (a1 - (Int.tmod a1 8))))), (by first | rfl | (simp; done) | (simp [*]; done)), H', ⟨by have := HK1.out; first | omega | exact Nat.le_refl _⟩, ⟨by (with_reducible repeat (first | apply Kd.R_alloc | apply Kd.R_drewN | apply Kd.R_drew)); exact HO_10.out⟩, ⟨by (with_reducible repeat (first | apply Kd.V_alloc | apply Kd.V_drewN | apply Kd.V_drew)); exact HO_274000.out⟩, ⟨by (with_reducible repeat (first | refine blk_drewN ?_ _ | refine blk_drew ?_ | refine blk_alloc ?_ _)); exact BK273.out⟩, ⟨by (with_reducible repeat (first | refine blk_drewN ?_ _ | refine blk_drew ?_ | refine blk_alloc ?_ _)); exact BK274.out⟩, ⟨by repeat (first | (with_reducible first | exact HB.out | apply below_alloc | apply pw_below_drewN | apply below_drew1 | refine below_set ?_ GE273.out | refine below_set ?_ GE274.out) | exact HB.out)⟩⟩
              · rw [if_neg c20] at H
                exact absurd H (by simp)
          case rest =>
            clear HC16
            try clear c1
            try clear c2
            try clear p2
            try clear q2
            try clear hx2
            try clear c4
            try clear c6
            try clear c6b0
            try clear c6b1
            try clear c8
            try clear c8b0
            try clear c12
            try clear c15
            try clear c15b0
            try clear c17
            try clear c19
            try clear c20
            try clear c20b0
            try clear c21
            try clear hcz13_0
            try clear hcz13_1
            try clear hcz18_0
            try clear hcz18_1
            try clear hcz22_0
            try clear hcz22_1
            try clear hfz13_0
            try clear hfz13_1
            try clear hfz18_0
            try clear hfz18_1
            try clear hfz22_0
            try clear hfz22_1
            try clear hx279_0
            try clear hx279_1
            try clear p2
            try clear p279
            try clear q279
            obtain ⟨kq, x51_15, rfl, HA, HJ15, HO_10, HO_274000, BK273, BK274, HB⟩ := hcut
            cases kq with
            | zero => exact absurd HA.out (by simp [ferryref03_poke.j1])
            | succ kj15 =>
              have H := HA.out
              clear HA
              simp only [ferryref03_poke.j1] at H
              by_cases c23 : x51_15 = true
              · subst c23
                have H1 : (if x10_1.length < 8796093022208 then ((some (x10_1 ++ [(⟨(IntKind.u64.wrap (a1 - (Int.tmod a1 8))), (Go.bits .or .u64 (Go.bits .andNot .u64 t275 (ji7)) (ji9))⟩ : S55)] : List (S55))).bind fun y280 => (if 0 ≤ x12_1 then (if x12_1 < (l0_1.length : Int) then (if ((rd_T55 l0_1 x12_1).f0) = (IntKind.u64.wrap (a1 - (Int.tmod a1 8))) then (ferryref03_poke.l0 kj15 (IntKind.u64.wrap (a1 - (Int.tmod a1 8))) (Go.bits .or .u64 (Go.bits .andNot .u64 t275 (ji7)) (ji9)) y280 true (wrap64 (x12_1 + 1)) l0_0 l0_1) else (if y280.length < 8796093022208 then (ferryref03_poke.l0 kj15 (IntKind.u64.wrap (a1 - (Int.tmod a1 8))) (Go.bits .or .u64 (Go.bits .andNot .u64 t275 (ji7)) (ji9)) (y280 ++ [(⟨(rd_T55 l0_1 x12_1).f0, (rd_T55 l0_1 x12_1).f1⟩ : S55)]) true (wrap64 (x12_1 + 1)) l0_0 l0_1) else (none))) else (none)) else (none))) else (none)) = some (r1, r2) := by rw [if_pos rfl] at H; exact H
                clear H
                have H := H1
                clear H1
                by_cases c24 : x10_1.length < 8796093022208
                · rw [if_pos c24] at H
                  have LMc24 := Aside0.mk c24
                  clear c24
                  obtain ⟨y280, hy280⟩ : ∃ y_ : List (S55), y_ = (x10_1 ++ [(⟨(IntKind.u64.wrap (a1 - (Int.tmod a1 8))), (Go.bits .or .u64 (Go.bits .andNot .u64 t275 (ji7)) (ji9))⟩ : S55)]) := ⟨_, rfl⟩
                  replace H : (if 0 ≤ x12_1 then (if x12_1 < (l0_1.length : Int) then (if ((rd_T55 l0_1 x12_1).f0) = (IntKind.u64.wrap (a1 - (Int.tmod a1 8))) then (ferryref03_poke.l0 kj15 (IntKind.u64.wrap (a1 - (Int.tmod a1 8))) (Go.bits .or .u64 (Go.bits .andNot .u64 t275 (ji7)) (ji9)) y280 true (wrap64 (x12_1 + 1)) l0_0 l0_1) else (if y280.length < 8796093022208 then (ferryref03_poke.l0 kj15 (IntKind.u64.wrap (a1 - (Int.tmod a1 8))) (Go.bits .or .u64 (Go.bits .andNot .u64 t275 (ji7)) (ji9)) (y280 ++ [(⟨(rd_T55 l0_1 x12_1).f0, (rd_T55 l0_1 x12_1).f1⟩ : S55)]) true (wrap64 (x12_1 + 1)) l0_0 l0_1) else (none))) else (none)) else (none)) = some (r1, r2) := by first | (rw [hy280]; with_reducible exact H) | (have H2_ := (Option.bind_some _ _).symm.trans H; rw [hy280]; with_reducible exact H2_) | (have H2_ := (Option.bind_some _ _).symm.trans H; with_reducible exact H2_) | with_reducible exact H | (rw [hy280]; exact H) | exact H
                  have Ny280 := Aside0.mk hy280
                  clear hy280
                  by_cases c25 : 0 ≤ x12_1
                  · rw [if_pos c25] at H
                    have c25b0 : decide (0 ≤ x12_1) = true := decide_eq_true c25
                    clear c25
                    by_cases c26 : x12_1 < (l0_1.length : Int)
                    · rw [if_pos c26] at H
                      have c26b0 : decide (x12_1 < (l0_1.length : Int)) = true := decide_eq_true c26
                      clear c26
                      by_cases c27 : ((rd_T55 l0_1 x12_1).f0) = (IntKind.u64.wrap (a1 - (Int.tmod a1 8)))
                      · rw [if_pos c27] at H
                        have c27b0 : (((rd_T55 l0_1 x12_1).f0) == (IntKind.u64.wrap (a1 - (Int.tmod a1 8)))) = true := beq_iff_eq.mpr c27
                        have c27b1 : (((rd_T55 l0_1 x12_1).f0) != (IntKind.u64.wrap (a1 - (Int.tmod a1 8)))) = false := bne_eq_false_iff_eq.mpr c27
                        clear c27
                        have H' := Aside0.mk H
                        clear H
                        go_wp2_with (first | ((with_reducible refine gate_builtin (b := .append) (xs := #[.tmp 52, .tmp 56]) rfl ?_); at_builtin; refine Kd.R_append k55 (w0 := w) w.heap.size rfl (.tmp 52) (.tmp 56) 23 55 (.agg #[(.int .u64 0), (.int .u64 0)]) 16 rfl Try.underlying23 info55 rfl (by decide) (by omega) u10 x10_1 (⟨(IntKind.u64.wrap (a1 - (Int.tmod a1 8))), (Go.bits .or .u64 (Go.bits .andNot .u64 t275 (ji7)) (ji9))⟩ : S55) [.int .u64 (IntKind.u64.wrap (a1 - (Int.tmod a1 8))), .int .u64 (Go.bits .or .u64 (Go.bits .andNot .u64 t275 (ji7)) (ji9))] (fun k_ => (w.heap.size ≤ k_)) (fun _ => False) rfl rfl ?aP (fun _ hk => hk.elim) ?aF ?aO ?aB ?aS ?aL ?_; (case aP => exact k55_mkM _ _ _ (⟨(IntKind.u64.wrap (a1 - (Int.tmod a1 8))), (Go.bits .or .u64 (Go.bits .andNot .u64 t275 (ji7)) (ji9))⟩ : S55)); (case aB => exact (by repeat (first | (with_reducible first | exact HB.out | apply below_alloc | apply pw_below_drewN | apply below_drew1 | refine below_set ?_ GE273.out | refine below_set ?_ GE274.out) | exact HB.out))); (case aF => exact (fun k_ hk => (Nat.le_trans (below_size (by repeat (first | (with_reducible first | exact HB.out | apply below_alloc | apply pw_below_drewN | apply below_drew1 | refine below_set ?_ GE273.out | refine below_set ?_ GE274.out) | exact HB.out))) hk))); (case aO => exact (by (with_reducible repeat (first | apply Kd.R_alloc | apply Kd.R_drewN | apply Kd.R_drew)); exact HO_10.out)); (case aS => exact (below_size (by repeat (first | (with_reducible first | exact HB.out | apply below_alloc | apply pw_below_drewN | apply below_drew1 | refine below_set ?_ GE273.out | refine below_set ?_ GE274.out) | exact HB.out)))); (case aL => have := LMc24.out; omega); intro v281 w28 ho hb hg hat; rw [← Ny280.out] at ho; have n0_ := Aside0.mk (Kd.V_afterv (ok := (fun k_ => (P0_0_ k_ ∨ w.heap.size ≤ k_) ∧ k_ ≠ gb273 ∧ k_ ≠ gb274)) (by (with_reducible repeat (first | apply Kd.V_alloc | apply Kd.V_drewN | apply Kd.V_drew)); exact Kd.V_mono HO_274000.out (fun _ hk => ⟨⟨hk.1, ⟨hk.2.2.1, hk.2.2.2⟩⟩, hk.2.1⟩)) hg hat); have n1_ := Aside0.mk (blk_grown (g := gb273) (o := .cells #[.slice A0_0 l0_0.length c0_0, .slice A0_1 l0_1.length c0_1] 25 (0, 0)) (by (with_reducible repeat (first | refine blk_drewN ?_ _ | refine blk_drew ?_ | refine blk_alloc ?_ _)); exact BK273.out) hg (Kd.R_ne HO_10.out BK273.out (by decide))); have n2_ := Aside0.mk (blk_grown (g := gb274) (o := .cells #[.slice none 0 0, .slice none 0 0] 25 (0, 0)) (by (with_reducible repeat (first | refine blk_drewN ?_ _ | refine blk_drew ?_ | refine blk_alloc ?_ _)); exact BK274.out) hg (Kd.R_ne HO_10.out BK274.out (by decide))); have n3_ := Aside0.mk (hb); have n4_ := Aside0.mk (ho); clear HO_274000; clear BK273; clear BK274; clear HB; clear HO_10; have HO_274000 := n0_; have BK273 := n1_; have BK274 := n2_; have HB := n3_; have HO282 := n4_; clear n0_ n1_ n2_ n3_ n4_; clear ho hb hg hat; have hnb29 := NB273_274.out; have hnc29 := NB274_273.out; have hcz30_0 : w28.cell? ⟨gb273, 0, none⟩ = some (.slice A0_0 l0_0.length c0_0) := (blk_cell BK273.out 0).trans rfl; have hcz30_1 : w28.cell? ⟨gb273, 1, none⟩ = some (.slice A0_1 l0_1.length c0_1) := (blk_cell BK273.out 1).trans rfl; have hfz30_0 := blk_frozen BK273.out 0; have hfz30_1 := blk_frozen BK273.out 1; have p283 : 0 ≤ (x12_1 : Int) := of_decide_eq_true (by first | (with_reducible assumption) | assumption); have q283 : x12_1 < (l0_1.length : Int) := of_decide_eq_true (by first | (with_reducible assumption) | assumption); obtain ⟨ad283, e283, hx283_0, hx283_1⟩ := at_T55 HR0_1.out x12_1 p283 q283; cases e283; replace hx283_0 := (HB.out.cell (World.block_lt_of_cell? w _ hx283_0)).trans hx283_0; replace hx283_1 := (HB.out.cell (World.block_lt_of_cell? w _ hx283_1)).trans hx283_1; replace p283 := eq_true p283; replace q283 := eq_true q283))
                        go_roundg kj15
                        case measure => have := HK1.out; have := HJ15.out; omega
                        case rel => exact ⟨(y280), (true), (wrap64 (x12_1 + 1)), (by first | rfl | (simp; done) | (simp [*]; done)), (by first | rfl | (simp; done) | (simp [*]; done)), H', ⟨by have := HK1.out; have := HJ15.out; omega⟩, ⟨by (with_reducible repeat (first | apply Kd.R_alloc | apply Kd.R_drewN | apply Kd.R_drew)); exact HO282.out⟩, ⟨by (with_reducible repeat (first | apply Kd.V_alloc | apply Kd.V_drewN | apply Kd.V_drew)); exact Kd.V_mono HO_274000.out (fun _ hk => ⟨hk.1.1, ⟨hk.2, ⟨hk.1.2.1, hk.1.2.2⟩⟩⟩)⟩, ⟨by (with_reducible repeat (first | refine blk_drewN ?_ _ | refine blk_drew ?_ | refine blk_alloc ?_ _)); exact BK273.out⟩, ⟨by (with_reducible repeat (first | refine blk_drewN ?_ _ | refine blk_drew ?_ | refine blk_alloc ?_ _)); exact BK274.out⟩, ⟨by repeat (first | (with_reducible first | exact HB.out | apply below_alloc | apply pw_below_drewN | apply below_drew1 | refine below_set ?_ GE273.out | refine below_set ?_ GE274.out) | exact HB.out)⟩⟩
                      · rw [if_neg c27] at H
                        have c27b0 : (((rd_T55 l0_1 x12_1).f0) == (IntKind.u64.wrap (a1 - (Int.tmod a1 8)))) = false := beq_eq_false_iff_ne.mpr c27
                        have c27b1 : (((rd_T55 l0_1 x12_1).f0) != (IntKind.u64.wrap (a1 - (Int.tmod a1 8)))) = true := bne_iff_ne.mpr c27
                        by_cases c31 : y280.length < 8796093022208
                        · rw [if_pos c31] at H
                          have LMc31 := Aside0.mk c31
                          clear c31
                          obtain ⟨y285, hy285⟩ : ∃ y_ : List (S55), y_ = (y280 ++ [(⟨(rd_T55 l0_1 x12_1).f0, (rd_T55 l0_1 x12_1).f1⟩ : S55)]) := ⟨_, rfl⟩
                          replace H : (ferryref03_poke.l0 kj15 (IntKind.u64.wrap (a1 - (Int.tmod a1 8))) (Go.bits .or .u64 (Go.bits .andNot .u64 t275 (ji7)) (ji9)) y285 true (wrap64 (x12_1 + 1)) l0_0 l0_1) = some (r1, r2) := by first | (rw [hy285]; with_reducible exact H) | (have H2_ := (Option.bind_some _ _).symm.trans H; rw [hy285]; with_reducible exact H2_) | (have H2_ := (Option.bind_some _ _).symm.trans H; with_reducible exact H2_) | with_reducible exact H | (rw [hy285]; exact H) | exact H
                          have Ny285 := Aside0.mk hy285
                          clear hy285
                          have H' := Aside0.mk H
                          clear H
                          go_wp2_with (first | ((with_reducible refine gate_builtin (b := .append) (xs := #[.tmp 52, .tmp 56]) rfl ?_); at_builtin; refine Kd.R_append k55 (w0 := w) w.heap.size rfl (.tmp 52) (.tmp 56) 23 55 (.agg #[(.int .u64 0), (.int .u64 0)]) 16 rfl Try.underlying23 info55 rfl (by decide) (by omega) u10 x10_1 (⟨(IntKind.u64.wrap (a1 - (Int.tmod a1 8))), (Go.bits .or .u64 (Go.bits .andNot .u64 t275 (ji7)) (ji9))⟩ : S55) [.int .u64 (IntKind.u64.wrap (a1 - (Int.tmod a1 8))), .int .u64 (Go.bits .or .u64 (Go.bits .andNot .u64 t275 (ji7)) (ji9))] (fun k_ => (w.heap.size ≤ k_)) (fun _ => False) rfl rfl ?aP (fun _ hk => hk.elim) ?aF ?aO ?aB ?aS ?aL ?_; (case aP => exact k55_mkM _ _ _ (⟨(IntKind.u64.wrap (a1 - (Int.tmod a1 8))), (Go.bits .or .u64 (Go.bits .andNot .u64 t275 (ji7)) (ji9))⟩ : S55)); (case aB => exact (by repeat (first | (with_reducible first | exact HB.out | apply below_alloc | apply pw_below_drewN | apply below_drew1 | refine below_set ?_ GE273.out | refine below_set ?_ GE274.out) | exact HB.out))); (case aF => exact (fun k_ hk => (Nat.le_trans (below_size (by repeat (first | (with_reducible first | exact HB.out | apply below_alloc | apply pw_below_drewN | apply below_drew1 | refine below_set ?_ GE273.out | refine below_set ?_ GE274.out) | exact HB.out))) hk))); (case aO => exact (by (with_reducible repeat (first | apply Kd.R_alloc | apply Kd.R_drewN | apply Kd.R_drew)); exact HO_10.out)); (case aS => exact (below_size (by repeat (first | (with_reducible first | exact HB.out | apply below_alloc | apply pw_below_drewN | apply below_drew1 | refine below_set ?_ GE273.out | refine below_set ?_ GE274.out) | exact HB.out)))); (case aL => have := LMc24.out; omega); intro v281 w32 ho hb hg hat; rw [← Ny280.out] at ho; have n0_ := Aside0.mk (Kd.V_afterv (ok := (fun k_ => (P0_0_ k_ ∨ w.heap.size ≤ k_) ∧ k_ ≠ gb273 ∧ k_ ≠ gb274)) (by (with_reducible repeat (first | apply Kd.V_alloc | apply Kd.V_drewN | apply Kd.V_drew)); exact Kd.V_mono HO_274000.out (fun _ hk => ⟨⟨hk.1, ⟨hk.2.2.1, hk.2.2.2⟩⟩, hk.2.1⟩)) hg hat); have n1_ := Aside0.mk (blk_grown (g := gb273) (o := .cells #[.slice A0_0 l0_0.length c0_0, .slice A0_1 l0_1.length c0_1] 25 (0, 0)) (by (with_reducible repeat (first | refine blk_drewN ?_ _ | refine blk_drew ?_ | refine blk_alloc ?_ _)); exact BK273.out) hg (Kd.R_ne HO_10.out BK273.out (by decide))); have n2_ := Aside0.mk (blk_grown (g := gb274) (o := .cells #[.slice none 0 0, .slice none 0 0] 25 (0, 0)) (by (with_reducible repeat (first | refine blk_drewN ?_ _ | refine blk_drew ?_ | refine blk_alloc ?_ _)); exact BK274.out) hg (Kd.R_ne HO_10.out BK274.out (by decide))); have n3_ := Aside0.mk (hb); have n4_ := Aside0.mk (ho); clear HO_274000; clear BK273; clear BK274; clear HB; clear HO_10; have HO_274000 := n0_; have BK273 := n1_; have BK274 := n2_; have HB := n3_; have HO282 := n4_; clear n0_ n1_ n2_ n3_ n4_; clear ho hb hg hat; have hnb33 := NB273_274.out; have hnc33 := NB274_273.out; have hcz34_0 : w32.cell? ⟨gb273, 0, none⟩ = some (.slice A0_0 l0_0.length c0_0) := (blk_cell BK273.out 0).trans rfl; have hcz34_1 : w32.cell? ⟨gb273, 1, none⟩ = some (.slice A0_1 l0_1.length c0_1) := (blk_cell BK273.out 1).trans rfl; have hfz34_0 := blk_frozen BK273.out 0; have hfz34_1 := blk_frozen BK273.out 1; have p283 : 0 ≤ (x12_1 : Int) := of_decide_eq_true (by first | (with_reducible assumption) | assumption); have q283 : x12_1 < (l0_1.length : Int) := of_decide_eq_true (by first | (with_reducible assumption) | assumption); obtain ⟨ad283, e283, hx283_0, hx283_1⟩ := at_T55 HR0_1.out x12_1 p283 q283; cases e283; replace hx283_0 := (HB.out.cell (World.block_lt_of_cell? w _ hx283_0)).trans hx283_0; replace hx283_1 := (HB.out.cell (World.block_lt_of_cell? w _ hx283_1)).trans hx283_1; replace p283 := eq_true p283; replace q283 := eq_true q283; have p284 : 0 ≤ (x12_1 : Int) := of_decide_eq_true (by first | (with_reducible assumption) | assumption); have q284 : x12_1 < (l0_1.length : Int) := of_decide_eq_true (by first | (with_reducible assumption) | assumption); obtain ⟨ad284, e284, hx284_0, hx284_1⟩ := at_T55 HR0_1.out x12_1 p284 q284; obtain rfl : ad283 = ad284 := (by injection e284); replace hx284_0 := (HB.out.cell (World.block_lt_of_cell? w _ hx284_0)).trans hx284_0; replace hx284_1 := (HB.out.cell (World.block_lt_of_cell? w _ hx284_1)).trans hx284_1; replace p284 := eq_true p284; replace q284 := eq_true q284) | ((with_reducible refine gate_builtin (b := .append) (xs := #[.tmp 66, .tmp 72]) rfl ?_); at_builtin; refine Kd.R_append k55 (w0 := w) w.heap.size rfl (.tmp 66) (.tmp 72) 23 55 (.agg #[(.int .u64 0), (.int .u64 0)]) 16 rfl Try.underlying23 info55 rfl (by decide) (by omega) v281 y280 (⟨(rd_T55 l0_1 x12_1).f0, (rd_T55 l0_1 x12_1).f1⟩ : S55) [.int .u64 ((rd_T55 l0_1 x12_1).f0), .int .u64 ((rd_T55 l0_1 x12_1).f1)] (fun k_ => (w.heap.size ≤ k_)) (fun _ => False) rfl rfl ?aP (fun _ hk => hk.elim) ?aF ?aO ?aB ?aS ?aL ?_; (case aP => exact k55_mkM _ _ _ (⟨(rd_T55 l0_1 x12_1).f0, (rd_T55 l0_1 x12_1).f1⟩ : S55)); (case aB => exact (by repeat (first | (with_reducible first | exact HB.out | apply below_alloc | apply pw_below_drewN | apply below_drew1 | refine below_set ?_ GE273.out | refine below_set ?_ GE274.out) | exact HB.out))); (case aF => exact (fun k_ hk => (Nat.le_trans (below_size (by repeat (first | (with_reducible first | exact HB.out | apply below_alloc | apply pw_below_drewN | apply below_drew1 | refine below_set ?_ GE273.out | refine below_set ?_ GE274.out) | exact HB.out))) hk))); (case aO => exact (by (with_reducible repeat (first | apply Kd.R_alloc | apply Kd.R_drewN | apply Kd.R_drew)); exact HO282.out)); (case aS => exact (below_size (by repeat (first | (with_reducible first | exact HB.out | apply below_alloc | apply pw_below_drewN | apply below_drew1 | refine below_set ?_ GE273.out | refine below_set ?_ GE274.out) | exact HB.out)))); (case aL => have := LMc31.out; omega); intro v286 w35 ho hb hg hat; rw [← Ny285.out] at ho; have n0_ := Aside0.mk (Kd.V_afterv (ok := (fun k_ => (P0_0_ k_ ∨ w.heap.size ≤ k_) ∧ k_ ≠ gb273 ∧ k_ ≠ gb274)) (by (with_reducible repeat (first | apply Kd.V_alloc | apply Kd.V_drewN | apply Kd.V_drew)); exact HO_274000.out) hg hat); have n1_ := Aside0.mk (blk_grown (g := gb273) (o := .cells #[.slice A0_0 l0_0.length c0_0, .slice (some ad283) l0_1.length c0_1] 25 (0, 0)) (by (with_reducible repeat (first | refine blk_drewN ?_ _ | refine blk_drew ?_ | refine blk_alloc ?_ _)); exact BK273.out) hg (Kd.R_ne HO282.out BK273.out (by decide))); have n2_ := Aside0.mk (blk_grown (g := gb274) (o := .cells #[.slice none 0 0, .slice none 0 0] 25 (0, 0)) (by (with_reducible repeat (first | refine blk_drewN ?_ _ | refine blk_drew ?_ | refine blk_alloc ?_ _)); exact BK274.out) hg (Kd.R_ne HO282.out BK274.out (by decide))); have n3_ := Aside0.mk (hb); have n4_ := Aside0.mk (ho); clear HO_274000; clear BK273; clear BK274; clear HB; clear HO282; have HO_274000 := n0_; have BK273 := n1_; have BK274 := n2_; have HB := n3_; have HO287 := n4_; clear n0_ n1_ n2_ n3_ n4_; clear ho hb hg hat))
                          go_roundg kj15
                          case measure => have := HK1.out; have := HJ15.out; omega
                          case rel => exact ⟨(y285), (true), (wrap64 (x12_1 + 1)), (by first | rfl | (simp; done) | (simp [*]; done)), (by first | rfl | (simp; done) | (simp [*]; done)), H', ⟨by have := HK1.out; have := HJ15.out; omega⟩, ⟨by (with_reducible repeat (first | apply Kd.R_alloc | apply Kd.R_drewN | apply Kd.R_drew)); exact HO287.out⟩, ⟨by (with_reducible repeat (first | apply Kd.V_alloc | apply Kd.V_drewN | apply Kd.V_drew)); exact Kd.V_mono HO_274000.out (fun _ hk => ⟨hk.1.1, ⟨hk.2, ⟨hk.1.2.1, hk.1.2.2⟩⟩⟩)⟩, ⟨by (with_reducible repeat (first | refine blk_drewN ?_ _ | refine blk_drew ?_ | refine blk_alloc ?_ _)); exact BK273.out⟩, ⟨by (with_reducible repeat (first | refine blk_drewN ?_ _ | refine blk_drew ?_ | refine blk_alloc ?_ _)); exact BK274.out⟩, ⟨by repeat (first | (with_reducible first | exact HB.out | apply below_alloc | apply pw_below_drewN | apply below_drew1 | refine below_set ?_ GE273.out | refine below_set ?_ GE274.out) | exact HB.out)⟩⟩
                        · rw [if_neg c31] at H
                          exact absurd H (by simp)
                    · rw [if_neg c26] at H
                      exact absurd H (by simp)
                  · rw [if_neg c25] at H
                    exact absurd H (by simp)
                · rw [if_neg c24] at H
                  exact absurd H (by simp)
              · replace c23 := Bool.eq_false_iff.mpr c23
                subst c23
                have H1 : (if 0 ≤ x12_1 then (if x12_1 < (l0_1.length : Int) then (if ((rd_T55 l0_1 x12_1).f0) = (IntKind.u64.wrap (a1 - (Int.tmod a1 8))) then (ferryref03_poke.l0 kj15 (IntKind.u64.wrap (a1 - (Int.tmod a1 8))) (Go.bits .or .u64 (Go.bits .andNot .u64 t275 (ji7)) (ji9)) x10_1 x11_1 (wrap64 (x12_1 + 1)) l0_0 l0_1) else (if x10_1.length < 8796093022208 then (ferryref03_poke.l0 kj15 (IntKind.u64.wrap (a1 - (Int.tmod a1 8))) (Go.bits .or .u64 (Go.bits .andNot .u64 t275 (ji7)) (ji9)) (x10_1 ++ [(⟨(rd_T55 l0_1 x12_1).f0, (rd_T55 l0_1 x12_1).f1⟩ : S55)]) x11_1 (wrap64 (x12_1 + 1)) l0_0 l0_1) else (none))) else (none)) else (none)) = some (r1, r2) := by rw [if_neg (show ¬ (false = true) by decide)] at H; exact H
                clear H
                have H := H1
                clear H1
                by_cases c36 : 0 ≤ x12_1
                · rw [if_pos c36] at H
                  have c36b0 : decide (0 ≤ x12_1) = true := decide_eq_true c36
                  clear c36
                  by_cases c37 : x12_1 < (l0_1.length : Int)
                  · rw [if_pos c37] at H
                    have c37b0 : decide (x12_1 < (l0_1.length : Int)) = true := decide_eq_true c37
                    clear c37
                    by_cases c38 : ((rd_T55 l0_1 x12_1).f0) = (IntKind.u64.wrap (a1 - (Int.tmod a1 8)))
                    · rw [if_pos c38] at H
                      have c38b0 : (((rd_T55 l0_1 x12_1).f0) == (IntKind.u64.wrap (a1 - (Int.tmod a1 8)))) = true := beq_iff_eq.mpr c38
                      have c38b1 : (((rd_T55 l0_1 x12_1).f0) != (IntKind.u64.wrap (a1 - (Int.tmod a1 8)))) = false := bne_eq_false_iff_eq.mpr c38
                      clear c38
                      have H' := Aside0.mk H
                      clear H
                      have hnb39 := NB273_274.out
                      have hnc39 := NB274_273.out
                      have hcz40_0 : wc.cell? ⟨gb273, 0, none⟩ = some (.slice A0_0 l0_0.length c0_0) := (blk_cell BK273.out 0).trans rfl
                      have hcz40_1 : wc.cell? ⟨gb273, 1, none⟩ = some (.slice A0_1 l0_1.length c0_1) := (blk_cell BK273.out 1).trans rfl
                      have hfz40_0 := blk_frozen BK273.out 0
                      have hfz40_1 := blk_frozen BK273.out 1
                      have p288 : 0 ≤ (x12_1 : Int) := of_decide_eq_true (by first | (with_reducible assumption) | assumption)
                      have q288 : x12_1 < (l0_1.length : Int) := of_decide_eq_true (by first | (with_reducible assumption) | assumption)
                      obtain ⟨ad288, e288, hx288_0, hx288_1⟩ := at_T55 HR0_1.out x12_1 p288 q288
                      cases e288
                      replace hx288_0 := (HB.out.cell (World.block_lt_of_cell? w _ hx288_0)).trans hx288_0
                      replace hx288_1 := (HB.out.cell (World.block_lt_of_cell? w _ hx288_1)).trans hx288_1
                      replace p288 := eq_true p288
                      replace q288 := eq_true q288
                      go_wp2
                      go_roundg kj15
                      case measure => have := HK1.out; have := HJ15.out; omega
                      case rel => exact ⟨(x10_1), (x11_1), (wrap64 (x12_1 + 1)), (by first | rfl | (simp; done) | (simp [*]; done)), (by first | rfl | (simp; done) | (simp [*]; done)), H', ⟨by have := HK1.out; have := HJ15.out; omega⟩, ⟨by (with_reducible repeat (first | apply Kd.R_alloc | apply Kd.R_drewN | apply Kd.R_drew)); exact HO_10.out⟩, ⟨by (with_reducible repeat (first | apply Kd.V_alloc | apply Kd.V_drewN | apply Kd.V_drew)); exact HO_274000.out⟩, ⟨by (with_reducible repeat (first | refine blk_drewN ?_ _ | refine blk_drew ?_ | refine blk_alloc ?_ _)); exact BK273.out⟩, ⟨by (with_reducible repeat (first | refine blk_drewN ?_ _ | refine blk_drew ?_ | refine blk_alloc ?_ _)); exact BK274.out⟩, ⟨by repeat (first | (with_reducible first | exact HB.out | apply below_alloc | apply pw_below_drewN | apply below_drew1 | refine below_set ?_ GE273.out | refine below_set ?_ GE274.out) | exact HB.out)⟩⟩
                    · rw [if_neg c38] at H
                      have c38b0 : (((rd_T55 l0_1 x12_1).f0) == (IntKind.u64.wrap (a1 - (Int.tmod a1 8)))) = false := beq_eq_false_iff_ne.mpr c38
                      have c38b1 : (((rd_T55 l0_1 x12_1).f0) != (IntKind.u64.wrap (a1 - (Int.tmod a1 8)))) = true := bne_iff_ne.mpr c38
                      by_cases c41 : x10_1.length < 8796093022208
                      · rw [if_pos c41] at H
                        have LMc41 := Aside0.mk c41
                        clear c41
                        obtain ⟨y290, hy290⟩ : ∃ y_ : List (S55), y_ = (x10_1 ++ [(⟨(rd_T55 l0_1 x12_1).f0, (rd_T55 l0_1 x12_1).f1⟩ : S55)]) := ⟨_, rfl⟩
                        replace H : (ferryref03_poke.l0 kj15 (IntKind.u64.wrap (a1 - (Int.tmod a1 8))) (Go.bits .or .u64 (Go.bits .andNot .u64 t275 (ji7)) (ji9)) y290 x11_1 (wrap64 (x12_1 + 1)) l0_0 l0_1) = some (r1, r2) := by first | (rw [hy290]; with_reducible exact H) | (have H2_ := (Option.bind_some _ _).symm.trans H; rw [hy290]; with_reducible exact H2_) | (have H2_ := (Option.bind_some _ _).symm.trans H; with_reducible exact H2_) | with_reducible exact H | (rw [hy290]; exact H) | exact H
                        have Ny290 := Aside0.mk hy290
                        clear hy290
                        have H' := Aside0.mk H
                        clear H
                        have hnb42 := NB273_274.out
                        have hnc42 := NB274_273.out
                        have hcz43_0 : wc.cell? ⟨gb273, 0, none⟩ = some (.slice A0_0 l0_0.length c0_0) := (blk_cell BK273.out 0).trans rfl
                        have hcz43_1 : wc.cell? ⟨gb273, 1, none⟩ = some (.slice A0_1 l0_1.length c0_1) := (blk_cell BK273.out 1).trans rfl
                        have hfz43_0 := blk_frozen BK273.out 0
                        have hfz43_1 := blk_frozen BK273.out 1
                        have p288 : 0 ≤ (x12_1 : Int) := of_decide_eq_true (by first | (with_reducible assumption) | assumption)
                        have q288 : x12_1 < (l0_1.length : Int) := of_decide_eq_true (by first | (with_reducible assumption) | assumption)
                        obtain ⟨ad288, e288, hx288_0, hx288_1⟩ := at_T55 HR0_1.out x12_1 p288 q288
                        cases e288
                        replace hx288_0 := (HB.out.cell (World.block_lt_of_cell? w _ hx288_0)).trans hx288_0
                        replace hx288_1 := (HB.out.cell (World.block_lt_of_cell? w _ hx288_1)).trans hx288_1
                        replace p288 := eq_true p288
                        replace q288 := eq_true q288
                        have p289 : 0 ≤ (x12_1 : Int) := of_decide_eq_true (by first | (with_reducible assumption) | assumption)
                        have q289 : x12_1 < (l0_1.length : Int) := of_decide_eq_true (by first | (with_reducible assumption) | assumption)
                        obtain ⟨ad289, e289, hx289_0, hx289_1⟩ := at_T55 HR0_1.out x12_1 p289 q289
                        obtain rfl : ad288 = ad289 := (by injection e289)
                        replace hx289_0 := (HB.out.cell (World.block_lt_of_cell? w _ hx289_0)).trans hx289_0
                        replace hx289_1 := (HB.out.cell (World.block_lt_of_cell? w _ hx289_1)).trans hx289_1
                        replace p289 := eq_true p289
                        replace q289 := eq_true q289
                        go_wp2_with (first | ((with_reducible refine gate_builtin (b := .append) (xs := #[.tmp 66, .tmp 72]) rfl ?_); at_builtin; refine Kd.R_append k55 (w0 := w) w.heap.size rfl (.tmp 66) (.tmp 72) 23 55 (.agg #[(.int .u64 0), (.int .u64 0)]) 16 rfl Try.underlying23 info55 rfl (by decide) (by omega) u10 x10_1 (⟨(rd_T55 l0_1 x12_1).f0, (rd_T55 l0_1 x12_1).f1⟩ : S55) [.int .u64 ((rd_T55 l0_1 x12_1).f0), .int .u64 ((rd_T55 l0_1 x12_1).f1)] (fun k_ => (w.heap.size ≤ k_)) (fun _ => False) rfl rfl ?aP (fun _ hk => hk.elim) ?aF ?aO ?aB ?aS ?aL ?_; (case aP => exact k55_mkM _ _ _ (⟨(rd_T55 l0_1 x12_1).f0, (rd_T55 l0_1 x12_1).f1⟩ : S55)); (case aB => exact (by repeat (first | (with_reducible first | exact HB.out | apply below_alloc | apply pw_below_drewN | apply below_drew1 | refine below_set ?_ GE273.out | refine below_set ?_ GE274.out) | exact HB.out))); (case aF => exact (fun k_ hk => (Nat.le_trans (below_size (by repeat (first | (with_reducible first | exact HB.out | apply below_alloc | apply pw_below_drewN | apply below_drew1 | refine below_set ?_ GE273.out | refine below_set ?_ GE274.out) | exact HB.out))) hk))); (case aO => exact (by (with_reducible repeat (first | apply Kd.R_alloc | apply Kd.R_drewN | apply Kd.R_drew)); exact HO_10.out)); (case aS => exact (below_size (by repeat (first | (with_reducible first | exact HB.out | apply below_alloc | apply pw_below_drewN | apply below_drew1 | refine below_set ?_ GE273.out | refine below_set ?_ GE274.out) | exact HB.out)))); (case aL => have := LMc41.out; omega); intro v291 w44 ho hb hg hat; rw [← Ny290.out] at ho; have n0_ := Aside0.mk (Kd.V_afterv (ok := (fun k_ => (P0_0_ k_ ∨ w.heap.size ≤ k_) ∧ k_ ≠ gb273 ∧ k_ ≠ gb274)) (by (with_reducible repeat (first | apply Kd.V_alloc | apply Kd.V_drewN | apply Kd.V_drew)); exact Kd.V_mono HO_274000.out (fun _ hk => ⟨⟨hk.1, ⟨hk.2.2.1, hk.2.2.2⟩⟩, hk.2.1⟩)) hg hat); have n1_ := Aside0.mk (blk_grown (g := gb273) (o := .cells #[.slice A0_0 l0_0.length c0_0, .slice (some ad288) l0_1.length c0_1] 25 (0, 0)) (by (with_reducible repeat (first | refine blk_drewN ?_ _ | refine blk_drew ?_ | refine blk_alloc ?_ _)); exact BK273.out) hg (Kd.R_ne HO_10.out BK273.out (by decide))); have n2_ := Aside0.mk (blk_grown (g := gb274) (o := .cells #[.slice none 0 0, .slice none 0 0] 25 (0, 0)) (by (with_reducible repeat (first | refine blk_drewN ?_ _ | refine blk_drew ?_ | refine blk_alloc ?_ _)); exact BK274.out) hg (Kd.R_ne HO_10.out BK274.out (by decide))); have n3_ := Aside0.mk (hb); have n4_ := Aside0.mk (ho); clear HO_274000; clear BK273; clear BK274; clear HB; clear HO_10; have HO_274000 := n0_; have BK273 := n1_; have BK274 := n2_; have HB := n3_; have HO292 := n4_; clear n0_ n1_ n2_ n3_ n4_; clear ho hb hg hat))
                        go_roundg kj15
                        case measure => have := HK1.out; have := HJ15.out; omega
                        case rel => exact ⟨(y290), (x11_1), (wrap64 (x12_1 + 1)), (by first | rfl | (simp; done) | (simp [*]; done)), (by first | rfl | (simp; done) | (simp [*]; done)), H', ⟨by have := HK1.out; have := HJ15.out; omega⟩, ⟨by (with_reducible repeat (first | apply Kd.R_alloc | apply Kd.R_drewN | apply Kd.R_drew)); exact HO292.out⟩, ⟨by (with_reducible repeat (first | apply Kd.V_alloc | apply Kd.V_drewN | apply Kd.V_drew)); exact Kd.V_mono HO_274000.out (fun _ hk => ⟨hk.1.1, ⟨hk.2, ⟨hk.1.2.1, hk.1.2.2⟩⟩⟩)⟩, ⟨by (with_reducible repeat (first | refine blk_drewN ?_ _ | refine blk_drew ?_ | refine blk_alloc ?_ _)); exact BK273.out⟩, ⟨by (with_reducible repeat (first | refine blk_drewN ?_ _ | refine blk_drew ?_ | refine blk_alloc ?_ _)); exact BK274.out⟩, ⟨by repeat (first | (with_reducible first | exact HB.out | apply below_alloc | apply pw_below_drewN | apply below_drew1 | refine below_set ?_ GE273.out | refine below_set ?_ GE274.out) | exact HB.out)⟩⟩
                      · rw [if_neg c41] at H
                        exact absurd H (by simp)
                  · rw [if_neg c37] at H
                    exact absurd H (by simp)
                · rw [if_neg c36] at H
                  exact absurd H (by simp)
        · rw [if_neg c15] at H
          have c15b0 : decide (x12_1 < (l0_1.length : Int)) = false := decide_eq_false c15
          clear c15
          by_cases c45 : x11_1 = true
          · subst c45
            have H1 : (some (l0_0, x10_1)) = some (r1, r2) := by rw [if_pos rfl] at H; exact H
            clear H
            have H := H1
            clear H1
            simp only [Option.some.injEq, Prod.mk.injEq] at H
            obtain ⟨rfl, rfl⟩ := H
            have hnb46 := NB273_274.out
            have hnc46 := NB274_273.out
            have hcz47_0 : wr.cell? ⟨gb273, 0, none⟩ = some (.slice A0_0 l0_0.length c0_0) := (blk_cell BK273.out 0).trans rfl
            have hcz47_1 : wr.cell? ⟨gb273, 1, none⟩ = some (.slice A0_1 l0_1.length c0_1) := (blk_cell BK273.out 1).trans rfl
            have hfz47_0 := blk_frozen BK273.out 0
            have hfz47_1 := blk_frozen BK273.out 1
            obtain ⟨Ao48, co48, eo48⟩ := Kd.R_slice HO_10.out
            subst eo48
            have hcz49_0 : wr.cell? ⟨gb274, 0, none⟩ = some (.slice none 0 0) := (blk_cell BK274.out 0).trans rfl
            have hcz49_1 : wr.cell? ⟨gb274, 1, none⟩ = some (.slice none 0 0) := (blk_cell BK274.out 1).trans rfl
            have hfz49_0 := blk_frozen BK274.out 0
            have hfz49_1 := blk_frozen BK274.out 1
            go_wp2
            refine bodyPost_ret (results_cell_row rfl _ _ gb274 25 #[.slice A0_0 l0_0.length c0_0, .slice Ao48 x10_1.length co48] (0, 0) _ rfl (by (with_reducible repeat (first | refine blk_drewN ?_ _ | refine blk_drew ?_ | refine blk_alloc ?_ _)); refine blk_put (cs := #[.slice A0_0 l0_0.length c0_0, .slice none 0 0]) ?_ 1 _ rfl; (with_reducible repeat (first | refine blk_drewN ?_ _ | refine blk_drew ?_ | refine blk_alloc ?_ _)); refine blk_put (cs := #[.slice none 0 0, .slice none 0 0]) ?_ 0 _ rfl; (with_reducible repeat (first | refine blk_drewN ?_ _ | refine blk_drew ?_ | refine blk_alloc ?_ _)); refine blk_far ?_ NB274_273.out _; (with_reducible repeat (first | refine blk_drewN ?_ _ | refine blk_drew ?_ | refine blk_alloc ?_ _)); exact BK274.out) Try.underlying25 rfl (by kernel_rfl)) rfl ?_
            exact ⟨_, _, by first | rfl | (simp [errW_none, errW_some] <;> rfl) | (simp only [← hji5, ← hji7, ← hji9]; first | rfl | (simp [errW_none, errW_some] <;> rfl)) | (simp [*, errW_none, errW_some] <;> rfl), by (with_reducible repeat (first | apply Kd.V_alloc | apply Kd.V_drewN | apply Kd.V_drew)); exact Kd.V_mono (Kd.V_far (p := ⟨gb274, 1, none⟩) (Kd.V_far (p := ⟨gb274, 0, none⟩) (Kd.V_far (p := ⟨gb273, 1, none⟩) (Kd.V_mono (Kd.V_mono HO_274000.out (fun k_ hk => (⟨hk, hk.2.2.1⟩ : _ ∧ k_ ≠ gb273))) (fun k_ hk => (⟨hk, hk.1.2.2.2⟩ : _ ∧ k_ ≠ gb274))) (fun _ hk => hk.1.2) (.slice Ao48 x10_1.length co48)) (fun _ hk => hk.2) (.slice A0_0 l0_0.length c0_0)) (fun _ hk => hk.2) (.slice Ao48 x10_1.length co48)) (fun _ hk => ⟨hk.1.1.1, hk.1.1.2.1⟩), by (with_reducible repeat (first | apply Kd.R_alloc | apply Kd.R_drewN | apply Kd.R_drew)); exact Kd.R_mono (Kd.R_far (p := ⟨gb274, 1, none⟩) (Kd.R_far (p := ⟨gb274, 0, none⟩) (Kd.R_far (p := ⟨gb273, 1, none⟩) (Kd.R_types (Kd.R_types HO_10.out BK273.out (by decide)) BK274.out (by decide)) (fun _ hk => hk.1.2) (.slice Ao48 x10_1.length co48)) (fun _ hk => hk.2) (.slice A0_0 l0_0.length c0_0)) (fun _ hk => hk.2) (.slice Ao48 x10_1.length co48)) (fun _ hk => hk.1.1), by repeat (first | (with_reducible first | exact HB.out | apply below_alloc | apply pw_below_drewN | apply below_drew1 | refine below_set ?_ GE273.out | refine below_set ?_ GE274.out) | exact HB.out)⟩
          · replace c45 := Bool.eq_false_iff.mpr c45
            subst c45
            have H1 : (if x10_1.length < 8796093022208 then (some (l0_0, (x10_1 ++ [(⟨(IntKind.u64.wrap (a1 - (Int.tmod a1 8))), (Go.bits .or .u64 (Go.bits .andNot .u64 t275 (ji7)) (ji9))⟩ : S55)]))) else (none)) = some (r1, r2) := by rw [if_neg (show ¬ (false = true) by decide)] at H; exact H
            clear H
            have H := H1
            clear H1
            by_cases c50 : x10_1.length < 8796093022208
            · rw [if_pos c50] at H
              have LMc50 := Aside0.mk c50
              clear c50
              obtain ⟨y276, hy276⟩ : ∃ y_ : List (S55), y_ = (x10_1 ++ [(⟨(IntKind.u64.wrap (a1 - (Int.tmod a1 8))), (Go.bits .or .u64 (Go.bits .andNot .u64 t275 (ji7)) (ji9))⟩ : S55)]) := ⟨_, rfl⟩
              replace H : (some (l0_0, y276)) = some (r1, r2) := by first | (rw [hy276]; with_reducible exact H) | (have H2_ := (Option.bind_some _ _).symm.trans H; rw [hy276]; with_reducible exact H2_) | (have H2_ := (Option.bind_some _ _).symm.trans H; with_reducible exact H2_) | with_reducible exact H | (rw [hy276]; exact H) | exact H
              have Ny276 := Aside0.mk hy276
              clear hy276
              simp only [Option.some.injEq, Prod.mk.injEq] at H
              obtain ⟨rfl, rfl⟩ := H
              have hnb51 := NB273_274.out
              have hnc51 := NB274_273.out
              have hcz52_0 : wr.cell? ⟨gb273, 0, none⟩ = some (.slice A0_0 l0_0.length c0_0) := (blk_cell BK273.out 0).trans rfl
              have hcz52_1 : wr.cell? ⟨gb273, 1, none⟩ = some (.slice A0_1 l0_1.length c0_1) := (blk_cell BK273.out 1).trans rfl
              have hfz52_0 := blk_frozen BK273.out 0
              have hfz52_1 := blk_frozen BK273.out 1
              go_wp2_with (first | ((with_reducible refine gate_builtin (b := .append) (xs := #[.tmp 76, .tmp 80]) rfl ?_); at_builtin; refine Kd.R_append k55 (w0 := w) w.heap.size rfl (.tmp 76) (.tmp 80) 23 55 (.agg #[(.int .u64 0), (.int .u64 0)]) 16 rfl Try.underlying23 info55 rfl (by decide) (by omega) u10 x10_1 (⟨(IntKind.u64.wrap (a1 - (Int.tmod a1 8))), (Go.bits .or .u64 (Go.bits .andNot .u64 t275 (ji7)) (ji9))⟩ : S55) [.int .u64 (IntKind.u64.wrap (a1 - (Int.tmod a1 8))), .int .u64 (Go.bits .or .u64 (Go.bits .andNot .u64 t275 (ji7)) (ji9))] (fun k_ => (w.heap.size ≤ k_)) (fun _ => False) rfl rfl ?aP (fun _ hk => hk.elim) ?aF ?aO ?aB ?aS ?aL ?_; (case aP => exact k55_mkM _ _ _ (⟨(IntKind.u64.wrap (a1 - (Int.tmod a1 8))), (Go.bits .or .u64 (Go.bits .andNot .u64 t275 (ji7)) (ji9))⟩ : S55)); (case aB => exact (by repeat (first | (with_reducible first | exact HB.out | apply below_alloc | apply pw_below_drewN | apply below_drew1 | refine below_set ?_ GE273.out | refine below_set ?_ GE274.out) | exact HB.out))); (case aF => exact (fun k_ hk => (Nat.le_trans (below_size (by repeat (first | (with_reducible first | exact HB.out | apply below_alloc | apply pw_below_drewN | apply below_drew1 | refine below_set ?_ GE273.out | refine below_set ?_ GE274.out) | exact HB.out))) hk))); (case aO => exact (by (with_reducible repeat (first | apply Kd.R_alloc | apply Kd.R_drewN | apply Kd.R_drew)); exact HO_10.out)); (case aS => exact (below_size (by repeat (first | (with_reducible first | exact HB.out | apply below_alloc | apply pw_below_drewN | apply below_drew1 | refine below_set ?_ GE273.out | refine below_set ?_ GE274.out) | exact HB.out)))); (case aL => have := LMc50.out; omega); intro v277 w53 ho hb hg hat; rw [← Ny276.out] at ho; have n0_ := Aside0.mk (Kd.V_afterv (ok := (fun k_ => (P0_0_ k_ ∨ w.heap.size ≤ k_) ∧ k_ ≠ gb273 ∧ k_ ≠ gb274)) (by (with_reducible repeat (first | apply Kd.V_alloc | apply Kd.V_drewN | apply Kd.V_drew)); exact Kd.V_mono HO_274000.out (fun _ hk => ⟨⟨hk.1, ⟨hk.2.2.1, hk.2.2.2⟩⟩, hk.2.1⟩)) hg hat); have n1_ := Aside0.mk (blk_grown (g := gb273) (o := .cells #[.slice A0_0 l0_0.length c0_0, .slice A0_1 l0_1.length c0_1] 25 (0, 0)) (by (with_reducible repeat (first | refine blk_drewN ?_ _ | refine blk_drew ?_ | refine blk_alloc ?_ _)); exact BK273.out) hg (Kd.R_ne HO_10.out BK273.out (by decide))); have n2_ := Aside0.mk (blk_grown (g := gb274) (o := .cells #[.slice none 0 0, .slice none 0 0] 25 (0, 0)) (by (with_reducible repeat (first | refine blk_drewN ?_ _ | refine blk_drew ?_ | refine blk_alloc ?_ _)); exact BK274.out) hg (Kd.R_ne HO_10.out BK274.out (by decide))); have n3_ := Aside0.mk (hb); have n4_ := Aside0.mk (ho); clear HO_274000; clear BK273; clear BK274; clear HB; clear HO_10; have HO_274000 := n0_; have BK273 := n1_; have BK274 := n2_; have HB := n3_; have HO278 := n4_; clear n0_ n1_ n2_ n3_ n4_; clear ho hb hg hat; obtain ⟨Ao54, co54, eo54⟩ := Kd.R_slice HO278.out; subst eo54; have hcz55_0 : w53.cell? ⟨gb273, 0, none⟩ = some (.slice A0_0 l0_0.length c0_0) := (blk_cell BK273.out 0).trans rfl; have hcz55_1 : w53.cell? ⟨gb273, 1, none⟩ = some (.slice A0_1 l0_1.length c0_1) := (blk_cell BK273.out 1).trans rfl; have hfz55_0 := blk_frozen BK273.out 0; have hfz55_1 := blk_frozen BK273.out 1; have hcz56_0 : w53.cell? ⟨gb274, 0, none⟩ = some (.slice none 0 0) := (blk_cell BK274.out 0).trans rfl; have hcz56_1 : w53.cell? ⟨gb274, 1, none⟩ = some (.slice none 0 0) := (blk_cell BK274.out 1).trans rfl; have hfz56_0 := blk_frozen BK274.out 0; have hfz56_1 := blk_frozen BK274.out 1))
              refine bodyPost_ret (results_cell_row rfl _ _ gb274 25 #[.slice A0_0 l0_0.length c0_0, .slice Ao54 y276.length co54] (0, 0) _ rfl (by (with_reducible repeat (first | refine blk_drewN ?_ _ | refine blk_drew ?_ | refine blk_alloc ?_ _)); refine blk_put (cs := #[.slice A0_0 l0_0.length c0_0, .slice none 0 0]) ?_ 1 _ rfl; (with_reducible repeat (first | refine blk_drewN ?_ _ | refine blk_drew ?_ | refine blk_alloc ?_ _)); refine blk_put (cs := #[.slice none 0 0, .slice none 0 0]) ?_ 0 _ rfl; (with_reducible repeat (first | refine blk_drewN ?_ _ | refine blk_drew ?_ | refine blk_alloc ?_ _)); refine blk_far ?_ NB274_273.out _; (with_reducible repeat (first | refine blk_drewN ?_ _ | refine blk_drew ?_ | refine blk_alloc ?_ _)); exact BK274.out) Try.underlying25 rfl (by kernel_rfl)) rfl ?_
              exact ⟨_, _, by first | rfl | (simp [errW_none, errW_some] <;> rfl) | (simp only [← hji5, ← hji7, ← hji9]; first | rfl | (simp [errW_none, errW_some] <;> rfl)) | (simp [*, errW_none, errW_some] <;> rfl), by (with_reducible repeat (first | apply Kd.V_alloc | apply Kd.V_drewN | apply Kd.V_drew)); exact Kd.V_mono (Kd.V_far (p := ⟨gb274, 1, none⟩) (Kd.V_far (p := ⟨gb274, 0, none⟩) (Kd.V_far (p := ⟨gb273, 1, none⟩) (Kd.V_mono (Kd.V_mono HO_274000.out (fun k_ hk => (⟨hk, hk.1.2.1⟩ : _ ∧ k_ ≠ gb273))) (fun k_ hk => (⟨hk, hk.1.1.2.2⟩ : _ ∧ k_ ≠ gb274))) (fun _ hk => hk.1.2) (.slice Ao54 y276.length co54)) (fun _ hk => hk.2) (.slice A0_0 l0_0.length c0_0)) (fun _ hk => hk.2) (.slice Ao54 y276.length co54)) (fun _ hk => ⟨hk.1.1.1.1, hk.1.1.2⟩), by (with_reducible repeat (first | apply Kd.R_alloc | apply Kd.R_drewN | apply Kd.R_drew)); exact Kd.R_mono (Kd.R_far (p := ⟨gb274, 1, none⟩) (Kd.R_far (p := ⟨gb274, 0, none⟩) (Kd.R_far (p := ⟨gb273, 1, none⟩) (Kd.R_types (Kd.R_types HO278.out BK273.out (by decide)) BK274.out (by decide)) (fun _ hk => hk.1.2) (.slice Ao54 y276.length co54)) (fun _ hk => hk.2) (.slice A0_0 l0_0.length c0_0)) (fun _ hk => hk.2) (.slice Ao54 y276.length co54)) (fun _ hk => hk.1.1), by repeat (first | (with_reducible first | exact HB.out | apply below_alloc | apply pw_below_drewN | apply below_drew1 | refine below_set ?_ GE273.out | refine below_set ?_ GE274.out) | exact HB.out)⟩
            · rw [if_neg c50] at H
              exact absurd H (by simp)
  · rw [if_neg c6] at H
    exact absurd H (by simp)

end Go.Proofs.Ytlmmipdgedfboaa.F
end
