import Derived.Below
import Derived.Deep.Draws
import Derived.Deep.AppendLies
import Derived.Maps.AppendAt
import Derived.OwnWalk
import Derived.Laws.BytesArg
import Derived.Laws.MakeOwn
import Derived.Laws.OwnMore
import Derived.Deep.OwnRows
import Derived.Tactics
import Derived.Lib.ConvBytes
import Derived.Laws.Slices
import Derived.WalkKit
import Derived.KernelRfl
import Derived.RowKit3
import Derived.Deep.LoopGhost
import Derived.Deep.QuietTactic
import Derived.BigQuiet
import Derived.WideLaws
import Derived.Deep.DeepCutAuto
import Derived.Deep.CutBlock
import Derived.Deep.RegionHeld3
import Derived.Laws.Rows
import Derived.Lib.AppendStr
import Derived.ArgAppend
import Derived.Laws.IdiomCopy
import Derived.RowKit
import Derived.OrdersHeld
import Derived.Laws.BitsLemmas
import Derived.Laws.StructEq
import Derived.Test.YtonoabknmmecnaaZF0
import Derived.Test.YtonoabknmmecnaaYC16FFerryref13Fit
import Derived.Test.YtonoabknmmecnaaYE21
section
namespace Go.Proofs.Ytonoabknmmecnaa.F
open Go.RowKit Go.Proofs.YtonoabknmmecnaaW.PrintWords Go.Proofs.YtonoabknmmecnaaW.PrintLast Go.Proofs.YtonoabknmmecnaaW.PrintMore
attribute [local go_sem] max2_int min2_int max_two min_two max_three min_three max_four min_four
set_option linter.unusedVariables false
set_option linter.unusedSimpArgs false

mutual
def ferryref13_Write.j0 : Nat → Int → Bool → Int → List (S39) → Option (ByteArray)
  | 0, _, _, _, _ => none
  | k + 1, x3, x142000, x142001, x142002 => (ferryref13_h.f k x3).bind fun t143 => (if 16 + t143.size ≤ 9223372036854775807 then ((ferryref13_h.f k 8).bind fun t144 => (if ((⟨#[127, 69, 76, 70, 1, 2, 1, 0, 0, 0, 0, 0, 0, 0, 0, 0]⟩ : ByteArray) ++ t143).size + t144.size ≤ 9223372036854775807 then ((ferryref13_w.f k 1).bind fun t145 => (if (((⟨#[127, 69, 76, 70, 1, 2, 1, 0, 0, 0, 0, 0, 0, 0, 0, 0]⟩ : ByteArray) ++ t143) ++ t144).size + t145.size ≤ 9223372036854775807 then ((ferryref13_w.f k x142001).bind fun t146 => (if ((((⟨#[127, 69, 76, 70, 1, 2, 1, 0, 0, 0, 0, 0, 0, 0, 0, 0]⟩ : ByteArray) ++ t143) ++ t144) ++ t145).size + t146.size ≤ 9223372036854775807 then ((ferryref13_w.f k 52).bind fun t147 => (if (((((⟨#[127, 69, 76, 70, 1, 2, 1, 0, 0, 0, 0, 0, 0, 0, 0, 0]⟩ : ByteArray) ++ t143) ++ t144) ++ t145) ++ t146).size + t147.size ≤ 9223372036854775807 then ((ferryref13_w.f k 0).bind fun t148 => (if ((((((⟨#[127, 69, 76, 70, 1, 2, 1, 0, 0, 0, 0, 0, 0, 0, 0, 0]⟩ : ByteArray) ++ t143) ++ t144) ++ t145) ++ t146) ++ t147).size + t148.size ≤ 9223372036854775807 then ((ferryref13_w.f k 1879052288).bind fun t149 => (if (((((((⟨#[127, 69, 76, 70, 1, 2, 1, 0, 0, 0, 0, 0, 0, 0, 0, 0]⟩ : ByteArray) ++ t143) ++ t144) ++ t145) ++ t146) ++ t147) ++ t148).size + t149.size ≤ 9223372036854775807 then ((ferryref13_h.f k 52).bind fun t150 => (if ((((((((⟨#[127, 69, 76, 70, 1, 2, 1, 0, 0, 0, 0, 0, 0, 0, 0, 0]⟩ : ByteArray) ++ t143) ++ t144) ++ t145) ++ t146) ++ t147) ++ t148) ++ t149).size + t150.size ≤ 9223372036854775807 then ((ferryref13_h.f k 32).bind fun t151 => (if (((((((((⟨#[127, 69, 76, 70, 1, 2, 1, 0, 0, 0, 0, 0, 0, 0, 0, 0]⟩ : ByteArray) ++ t143) ++ t144) ++ t145) ++ t146) ++ t147) ++ t148) ++ t149) ++ t150).size + t151.size ≤ 9223372036854775807 then ((ferryref13_h.f k (x142002.length : Int)).bind fun t152 => (if ((((((((((⟨#[127, 69, 76, 70, 1, 2, 1, 0, 0, 0, 0, 0, 0, 0, 0, 0]⟩ : ByteArray) ++ t143) ++ t144) ++ t145) ++ t146) ++ t147) ++ t148) ++ t149) ++ t150) ++ t151).size + t152.size ≤ 9223372036854775807 then ((ferryref13_h.f k 0).bind fun t153 => (if (((((((((((⟨#[127, 69, 76, 70, 1, 2, 1, 0, 0, 0, 0, 0, 0, 0, 0, 0]⟩ : ByteArray) ++ t143) ++ t144) ++ t145) ++ t146) ++ t147) ++ t148) ++ t149) ++ t150) ++ t151) ++ t152).size + t153.size ≤ 9223372036854775807 then ((ferryref13_h.f k 0).bind fun t154 => (if ((((((((((((⟨#[127, 69, 76, 70, 1, 2, 1, 0, 0, 0, 0, 0, 0, 0, 0, 0]⟩ : ByteArray) ++ t143) ++ t144) ++ t145) ++ t146) ++ t147) ++ t148) ++ t149) ++ t150) ++ t151) ++ t152) ++ t153).size + t154.size ≤ 9223372036854775807 then ((ferryref13_h.f k 0).bind fun t155 => (if (((((((((((((⟨#[127, 69, 76, 70, 1, 2, 1, 0, 0, 0, 0, 0, 0, 0, 0, 0]⟩ : ByteArray) ++ t143) ++ t144) ++ t145) ++ t146) ++ t147) ++ t148) ++ t149) ++ t150) ++ t151) ++ t152) ++ t153) ++ t154).size + t155.size ≤ 9223372036854775807 then (ferryref13_Write.l0 k ((((((((((((((⟨#[127, 69, 76, 70, 1, 2, 1, 0, 0, 0, 0, 0, 0, 0, 0, 0]⟩ : ByteArray) ++ t143) ++ t144) ++ t145) ++ t146) ++ t147) ++ t148) ++ t149) ++ t150) ++ t151) ++ t152) ++ t153) ++ t154) ++ t155) 0 x142000 x142001 x142002) else (none))) else (none))) else (none))) else (none))) else (none))) else (none))) else (none))) else (none))) else (none))) else (none))) else (none))) else (none))) else (none))
def ferryref13_Write.l0 : Nat → ByteArray → Int → Bool → Int → List (S39) → Option (ByteArray)
  | 0, _, _, _, _, _ => none
  | k + 1, x4, x5, x142000, x142001, x142002 => if x5 < (x142002.length : Int) then (if 0 ≤ x5 then ((ferryref13_w.f k (((rd_T39 x142002 x5).f0) % 4294967296)).bind fun t158 => (if x4.size + t158.size ≤ 9223372036854775807 then ((ferryref13_w.f k ((rd_T39 x142002 x5).f1)).bind fun t159 => (if (x4 ++ t158).size + t159.size ≤ 9223372036854775807 then ((ferryref13_w.f k ((rd_T39 x142002 x5).f2)).bind fun t160 => (if ((x4 ++ t158) ++ t159).size + t160.size ≤ 9223372036854775807 then ((ferryref13_w.f k ((rd_T39 x142002 x5).f2)).bind fun t161 => (if (((x4 ++ t158) ++ t159) ++ t160).size + t161.size ≤ 9223372036854775807 then ((ferryref13_w.f k ((rd_T39 x142002 x5).f3)).bind fun t162 => (if ((((x4 ++ t158) ++ t159) ++ t160) ++ t161).size + t162.size ≤ 9223372036854775807 then ((ferryref13_w.f k ((rd_T39 x142002 x5).f4)).bind fun t163 => (if (((((x4 ++ t158) ++ t159) ++ t160) ++ t161) ++ t162).size + t163.size ≤ 9223372036854775807 then ((ferryref13_flagsOf.f k ((rd_T39 x142002 x5).f5)).bind fun t164 => ((ferryref13_w.f k t164).bind fun t165 => (if ((((((x4 ++ t158) ++ t159) ++ t160) ++ t161) ++ t162) ++ t163).size + t165.size ≤ 9223372036854775807 then ((ferryref13_w.f k ((rd_T39 x142002 x5).f6)).bind fun t166 => (if (((((((x4 ++ t158) ++ t159) ++ t160) ++ t161) ++ t162) ++ t163) ++ t165).size + t166.size ≤ 9223372036854775807 then (ferryref13_Write.l0 k ((((((((x4 ++ t158) ++ t159) ++ t160) ++ t161) ++ t162) ++ t163) ++ t165) ++ t166) (wrap64 (x5 + 1)) x142000 x142001 x142002) else (none))) else (none)))) else (none))) else (none))) else (none))) else (none))) else (none))) else (none))) else (none)) else (some x4)
end
def ferryref13_Write.f (k : Nat) (a0_0 : Bool) (a0_1 : Int) (l0_2 : List (S39)) : Option (ByteArray) := (ferryref13_Fit.f k a0_0 a0_1 l0_2).bind fun t142 => (if t142 = true then (if a0_0 = true then (ferryref13_Write.j0 k 3 a0_0 a0_1 l0_2) else (ferryref13_Write.j0 k 2 a0_0 a0_1 l0_2)) else (some (⟨#[]⟩ : ByteArray)))
def ferryref13_Write.T6 : Bool × List (List Nat × List Nat) := (true, [([], []), ([0], [0]), ([1], [1]), ([1], []), ([2, 3], [2, 3]), ([3], []), ([4, 5], [4, 5]), ([], []), ([7], [7]), ([8, 5], [8]), ([6, 9], [6, 9]), ([9], []), ([10, 11], [10, 11]), ([11], []), ([12, 13], [12, 13]), ([13], []), ([14, 15], [14, 15]), ([15], []), ([16, 17], [16, 17]), ([17], []), ([18, 19], [18, 19]), ([], []), ([21], [21]), ([22], [22]), ([23, 19], [23]), ([20, 24], [20, 24]), ([24], []), ([25, 26], [25, 26]), ([26], []), ([27, 28], [27, 28]), ([28], []), ([29, 30], [29, 30]), ([31, 30, 0, 1, 2, 3, 4, 5, 6, 7, 8, 9, 10, 11, 12, 13, 14, 15, 16, 17, 18, 19, 20, 21, 22, 23, 24, 25, 26, 27, 28, 29, 30, 31], [31])])
def ferryref13_Write.B6 : List Nat := [0, 1, 3, 3, 15, 11, 63, 0, 128, 427, 1023, 939, 4095, 2987, 16383, 11179, 65535, 43947, 262143, 175019, 1048575, 0, 2097152, 6291456, 15379371, 33554431, 32156587, 134217727, 99265451, 536870911, 367700907, 2147483647, 4294967295]
theorem ferryref13_Write.tab6 : rtab .any (opsOf Try.f16 6) = ferryref13_Write.T6 := by kernel_rfl
theorem ferryref13_Write.bits6 : waitsOk ferryref13_Write.T6.2 ferryref13_Write.B6 = true := by kernel_rfl
def ferryref13_Write.T11 : Bool × List (List Nat × List Nat) := (true, [([], []), ([], []), ([1], [1]), ([2], [2]), ([3], [3]), ([0, 4], [0, 4]), ([], []), ([6], [6]), ([7, 4], [7]), ([5, 8], [5, 8]), ([], []), ([10], [10]), ([11, 8], [11]), ([9, 12], [9, 12]), ([], []), ([14], [14]), ([15, 12], [15]), ([13, 16], [13, 16]), ([], []), ([18], [18]), ([19, 16], [19]), ([17, 20], [17, 20]), ([], []), ([22], [22]), ([23, 20], [23]), ([21, 24], [21, 24]), ([], []), ([26], [26]), ([27, 24], [27]), ([28, 28], [28]), ([25, 29], [25, 29]), ([], []), ([31], [31]), ([32, 29], [32]), ([30, 33], [30, 33]), ([34, 33, 0, 1, 2, 3, 4, 5, 6, 7, 8, 9, 10, 11, 12, 13, 14, 15, 16, 17, 18, 19, 20, 21, 22, 23, 24, 25, 26, 27, 28, 29, 30, 31, 32, 33, 34], [0, 34])])
def ferryref13_Write.B11 : List Nat := [0, 0, 2, 6, 14, 31, 0, 64, 222, 511, 0, 1024, 3550, 8191, 0, 16384, 56798, 131071, 0, 262144, 908766, 2097151, 0, 4194304, 14540254, 33554431, 0, 67108864, 232644062, 501079518, 1073741823, 0, 2147483648, 7480401374, 17179869183, 34359738367]
theorem ferryref13_Write.tab11 : rtab .any (opsOf Try.f16 11) = ferryref13_Write.T11 := by kernel_rfl
theorem ferryref13_Write.bits11 : waitsOk ferryref13_Write.T11.2 ferryref13_Write.B11 = true := by kernel_rfl
set_option maxHeartbeats 8000000 in
set_option maxRecDepth 100000 in
theorem ferryref13_Write.calls (k : Nat) (a0_0 : Bool) (a0_1 : Int) (A0_2 : Option Addr) (c0_2 : Nat) (l0_2 : List (S39)) (r : ByteArray) (w : World) (hr0_2 : Kd.C k39 w A0_2 l0_2.length l0_2) (hc0_2 : l0_2.length ≤ c0_2) (h : ferryref13_Write.f k a0_0 a0_1 l0_2 = some r) :
    Calls Try.prog 16 #[.agg #[.bool a0_0, .int .u32 a0_1, .slice A0_2 l0_2.length c0_2]] w fun e w' => e = .returned (.string r) ∧ Below w.heap.size w w' := by
  have hu26 := Try.underlying26
  have hu39 := Try.underlying39
  have HR0_2 := Aside0.mk hr0_2
  have HC0_2 := Aside0.mk hc0_2
  clear hr0_2 hc0_2
  have HB := Aside0.mk (Below.refl w.heap.size w)
  have H : ((ferryref13_Fit.f k a0_0 a0_1 l0_2).bind fun t142 => (if t142 = true then (if a0_0 = true then (ferryref13_Write.j0 k 3 a0_0 a0_1 l0_2) else (ferryref13_Write.j0 k 2 a0_0 a0_1 l0_2)) else (some (⟨#[]⟩ : ByteArray)))) = some r := h
  clear h
  replace H := Option.bind_eq_some_iff.mp H
  obtain ⟨t142, A20, H⟩ := H
  replace H : (if t142 = true then (if a0_0 = true then (ferryref13_Write.j0 k 3 a0_0 a0_1 l0_2) else (ferryref13_Write.j0 k 2 a0_0 a0_1 l0_2)) else (some (⟨#[]⟩ : ByteArray))) = some r := H
  have A2 := Aside0.mk A20
  clear A20
  by_cases c3 : t142 = true
  · subst c3
    have H1 : (if a0_0 = true then (ferryref13_Write.j0 k 3 a0_0 a0_1 l0_2) else (ferryref13_Write.j0 k 2 a0_0 a0_1 l0_2)) = some r := by rw [if_pos rfl] at H; exact H
    clear H
    have H := H1
    clear H1
    have HC4 := Aside0.mk H
    clear H
    go_enter Try.func16, Try.ntmps16
    go_upto_if 11 with (first | ((with_reducible refine gate_dst (N := 1) rfl ?_); refine box_event ?hg (N := 1) ?hd (cs := #[.bool a0_0, .int .u32 a0_1, .slice A0_2 l0_2.length c0_2]) (t := 26) ?hr ?_; (case hd => rfl); (case hg => rfl); (case hr => first | (go_simp; done) | (go_simp; rfl)); intro gb141 hg w5 hbox hb; have n0_ := Aside0.mk (below_step (by repeat (first | (with_reducible first | exact HB.out | apply below_alloc | apply pw_below_drewN | apply below_drew1) | exact HB.out)) hb); have n1_ := Aside0.mk (hbox); have n2_ := Aside0.mk ((by rw [hg]; exact (below_size (by repeat (first | (with_reducible first | exact HB.out | apply below_alloc | apply pw_below_drewN | apply below_drew1) | exact HB.out))) : w.heap.size ≤ gb141)); have n3_ := Aside0.mk ((by rw [hg]; exact (below_size (by repeat (first | (with_reducible first | exact HB.out | apply below_alloc | apply pw_below_drewN | apply below_drew1) | exact HB.out))) : w.heap.size ≤ gb141)); clear HB; have HB := n0_; have BK141 := n1_; have GW141 := n2_; have GE141 := n3_; clear n0_ n1_ n2_ n3_; clear hb hbox hg; have hcz6_0 : w5.cell? ⟨gb141, 0, none⟩ = some (.bool a0_0) := (blk_cell BK141.out 0).trans rfl; have hcz6_1 : w5.cell? ⟨gb141, 1, none⟩ = some (.int .u32 a0_1) := (blk_cell BK141.out 1).trans rfl; have hcz6_2 : w5.cell? ⟨gb141, 2, none⟩ = some (.slice A0_2 l0_2.length c0_2) := (blk_cell BK141.out 2).trans rfl; have hfz6_0 := blk_frozen BK141.out 0; have hfz6_1 := blk_frozen BK141.out 1; have hfz6_2 := blk_frozen BK141.out 2) | ((with_reducible refine gate_callee (f := 14) rfl ?_); refine goesL_ (some 8) rfl rfl Try.func14 (by kernel_rfl) rfl #[.agg #[.bool a0_0, .int .u32 a0_1, .slice A0_2 l0_2.length c0_2]] rfl (by (try simp only [List.map_toArray, List.map_cons, List.map_nil]); first | done | rfl | (simp only [List.length_drop, List.length_take]; rfl)) ?_; (with_reducible refine (ferryref13_Fit.calls k a0_0 a0_1 _ _ l0_2 true _ ?side1 ?side2 A2.out).mono ?_); (case side1 => repeat (first | exact (Kd.C_below HR0_2.out HB.out) | (with_reducible refine Kd.C_alloc ?_ _) | (with_reducible refine Kd.C_drewN ?_ _) | (with_reducible refine Kd.C_drew ?_))); (case side2 => exact HC0_2.out); rintro e w7 ⟨rfl, hb⟩; refine ⟨_, rfl, ?_⟩; have n0_ := Aside0.mk (blk_below (g := gb141) (o := .cells #[.bool a0_0, .int .u32 a0_1, .slice A0_2 l0_2.length c0_2] 26 (0, 0)) (by (with_reducible repeat (first | refine blk_drewN ?_ _ | refine blk_drew ?_ | refine blk_alloc ?_ _)); exact BK141.out) hb); have n1_ := Aside0.mk (below_step (by repeat (first | (with_reducible first | exact HB.out | apply below_alloc | apply pw_below_drewN | apply below_drew1 | refine below_set ?_ GE141.out) | exact HB.out)) hb); clear BK141; clear HB; have BK141 := n0_; have HB := n1_; clear n0_ n1_; (try clear hb); (try clear hb2); (try clear hk); (try clear hi); have hcz8_0 : w7.cell? ⟨gb141, 0, none⟩ = some (.bool a0_0) := (blk_cell BK141.out 0).trans rfl; have hcz8_1 : w7.cell? ⟨gb141, 1, none⟩ = some (.int .u32 a0_1) := (blk_cell BK141.out 1).trans rfl; have hcz8_2 : w7.cell? ⟨gb141, 2, none⟩ = some (.slice A0_2 l0_2.length c0_2) := (blk_cell BK141.out 2).trans rfl; have hfz8_0 := blk_frozen BK141.out 0; have hfz8_1 := blk_frozen BK141.out 1; have hfz8_2 := blk_frozen BK141.out 2))
    (try simp only [Act.put, List.setIfInBounds_toArray, List.set_cons_zero, List.set_cons_succ])
    go_cut [3] (fun v3 wc => ∃ (kq : Nat) (x3_3 : Int), v3 = .int .i64 x3_3 ∧ Aside0 (ferryref13_Write.j0 kq x3_3 a0_0 a0_1 l0_2 = some r) ∧ Aside0 (kq ≤ k) ∧ Aside0 (wc.heap[gb141]? = some (.cells #[.bool a0_0, .int .u32 a0_1, (.slice A0_2 l0_2.length c0_2)] 26 (0, 0))) ∧ Aside0 (Below w.heap.size w wc))
    case first =>
      have H := HC4.out
      clear HC4
      by_cases c9 : a0_0 = true
      · subst c9
        have H1 : (ferryref13_Write.j0 k 3 true a0_1 l0_2) = some r := by rw [if_pos rfl] at H; exact H
        clear H
        have H := H1
        clear H1
        have H' := Aside0.mk H
        clear H
        go_wp2
        go_meet
        case rel => exact ⟨_, (3), (by first | rfl | (simp; done) | (simp [*]; done)), H', ⟨by first | omega | exact Nat.le_refl _⟩, ⟨by (with_reducible repeat (first | refine blk_drewN ?_ _ | refine blk_drew ?_ | refine blk_alloc ?_ _)); exact BK141.out⟩, ⟨by repeat (first | (with_reducible first | exact HB.out | apply below_alloc | apply pw_below_drewN | apply below_drew1 | refine below_set ?_ GE141.out) | exact HB.out)⟩⟩
      · replace c9 := Bool.eq_false_iff.mpr c9
        subst c9
        have H1 : (ferryref13_Write.j0 k 2 false a0_1 l0_2) = some r := by rw [if_neg (show ¬ (false = true) by decide)] at H; exact H
        clear H
        have H := H1
        clear H1
        have H' := Aside0.mk H
        clear H
        go_wp2
        go_meet
        case rel => exact ⟨_, (2), (by first | rfl | (simp; done) | (simp [*]; done)), H', ⟨by first | omega | exact Nat.le_refl _⟩, ⟨by (with_reducible repeat (first | refine blk_drewN ?_ _ | refine blk_drew ?_ | refine blk_alloc ?_ _)); exact BK141.out⟩, ⟨by repeat (first | (with_reducible first | exact HB.out | apply below_alloc | apply pw_below_drewN | apply below_drew1 | refine below_set ?_ GE141.out) | exact HB.out)⟩⟩
    case rest =>
      clear HC4
      try clear c1
      try clear p2
      try clear c3
      try clear c9
      try clear hcz6_0
      try clear hcz6_1
      try clear hcz6_2
      try clear hcz8_0
      try clear hcz8_1
      try clear hcz8_2
      try clear hfz6_0
      try clear hfz6_1
      try clear hfz6_2
      try clear hfz8_0
      try clear hfz8_1
      try clear hfz8_2
      obtain ⟨kq, x3_3, rfl, HA, HJ3, BK141, HB⟩ := hcut
      cases kq with
      | zero => exact absurd HA.out (by simp [ferryref13_Write.j0])
      | succ kj3 =>
        have H := HA.out
        clear HA
        simp only [ferryref13_Write.j0] at H
        replace H := Option.bind_eq_some_iff.mp H
        obtain ⟨t143, A100, H⟩ := H
        replace H : (if 16 + t143.size ≤ 9223372036854775807 then ((ferryref13_h.f kj3 8).bind fun t144 => (if ((⟨#[127, 69, 76, 70, 1, 2, 1, 0, 0, 0, 0, 0, 0, 0, 0, 0]⟩ : ByteArray) ++ t143).size + t144.size ≤ 9223372036854775807 then ((ferryref13_w.f kj3 1).bind fun t145 => (if (((⟨#[127, 69, 76, 70, 1, 2, 1, 0, 0, 0, 0, 0, 0, 0, 0, 0]⟩ : ByteArray) ++ t143) ++ t144).size + t145.size ≤ 9223372036854775807 then ((ferryref13_w.f kj3 a0_1).bind fun t146 => (if ((((⟨#[127, 69, 76, 70, 1, 2, 1, 0, 0, 0, 0, 0, 0, 0, 0, 0]⟩ : ByteArray) ++ t143) ++ t144) ++ t145).size + t146.size ≤ 9223372036854775807 then ((ferryref13_w.f kj3 52).bind fun t147 => (if (((((⟨#[127, 69, 76, 70, 1, 2, 1, 0, 0, 0, 0, 0, 0, 0, 0, 0]⟩ : ByteArray) ++ t143) ++ t144) ++ t145) ++ t146).size + t147.size ≤ 9223372036854775807 then ((ferryref13_w.f kj3 0).bind fun t148 => (if ((((((⟨#[127, 69, 76, 70, 1, 2, 1, 0, 0, 0, 0, 0, 0, 0, 0, 0]⟩ : ByteArray) ++ t143) ++ t144) ++ t145) ++ t146) ++ t147).size + t148.size ≤ 9223372036854775807 then ((ferryref13_w.f kj3 1879052288).bind fun t149 => (if (((((((⟨#[127, 69, 76, 70, 1, 2, 1, 0, 0, 0, 0, 0, 0, 0, 0, 0]⟩ : ByteArray) ++ t143) ++ t144) ++ t145) ++ t146) ++ t147) ++ t148).size + t149.size ≤ 9223372036854775807 then ((ferryref13_h.f kj3 52).bind fun t150 => (if ((((((((⟨#[127, 69, 76, 70, 1, 2, 1, 0, 0, 0, 0, 0, 0, 0, 0, 0]⟩ : ByteArray) ++ t143) ++ t144) ++ t145) ++ t146) ++ t147) ++ t148) ++ t149).size + t150.size ≤ 9223372036854775807 then ((ferryref13_h.f kj3 32).bind fun t151 => (if (((((((((⟨#[127, 69, 76, 70, 1, 2, 1, 0, 0, 0, 0, 0, 0, 0, 0, 0]⟩ : ByteArray) ++ t143) ++ t144) ++ t145) ++ t146) ++ t147) ++ t148) ++ t149) ++ t150).size + t151.size ≤ 9223372036854775807 then ((ferryref13_h.f kj3 (l0_2.length : Int)).bind fun t152 => (if ((((((((((⟨#[127, 69, 76, 70, 1, 2, 1, 0, 0, 0, 0, 0, 0, 0, 0, 0]⟩ : ByteArray) ++ t143) ++ t144) ++ t145) ++ t146) ++ t147) ++ t148) ++ t149) ++ t150) ++ t151).size + t152.size ≤ 9223372036854775807 then ((ferryref13_h.f kj3 0).bind fun t153 => (if (((((((((((⟨#[127, 69, 76, 70, 1, 2, 1, 0, 0, 0, 0, 0, 0, 0, 0, 0]⟩ : ByteArray) ++ t143) ++ t144) ++ t145) ++ t146) ++ t147) ++ t148) ++ t149) ++ t150) ++ t151) ++ t152).size + t153.size ≤ 9223372036854775807 then ((ferryref13_h.f kj3 0).bind fun t154 => (if ((((((((((((⟨#[127, 69, 76, 70, 1, 2, 1, 0, 0, 0, 0, 0, 0, 0, 0, 0]⟩ : ByteArray) ++ t143) ++ t144) ++ t145) ++ t146) ++ t147) ++ t148) ++ t149) ++ t150) ++ t151) ++ t152) ++ t153).size + t154.size ≤ 9223372036854775807 then ((ferryref13_h.f kj3 0).bind fun t155 => (if (((((((((((((⟨#[127, 69, 76, 70, 1, 2, 1, 0, 0, 0, 0, 0, 0, 0, 0, 0]⟩ : ByteArray) ++ t143) ++ t144) ++ t145) ++ t146) ++ t147) ++ t148) ++ t149) ++ t150) ++ t151) ++ t152) ++ t153) ++ t154).size + t155.size ≤ 9223372036854775807 then (ferryref13_Write.l0 kj3 ((((((((((((((⟨#[127, 69, 76, 70, 1, 2, 1, 0, 0, 0, 0, 0, 0, 0, 0, 0]⟩ : ByteArray) ++ t143) ++ t144) ++ t145) ++ t146) ++ t147) ++ t148) ++ t149) ++ t150) ++ t151) ++ t152) ++ t153) ++ t154) ++ t155) 0 a0_0 a0_1 l0_2) else (none))) else (none))) else (none))) else (none))) else (none))) else (none))) else (none))) else (none))) else (none))) else (none))) else (none))) else (none))) else (none)) = some r := H
        have A10 := Aside0.mk A100
        clear A100
        by_cases c11 : 16 + t143.size ≤ 9223372036854775807
        · rw [if_pos c11] at H
          have c11b0 := eq_true c11
          have c11b1 : decide (16 + t143.size ≤ 9223372036854775807) = true := decide_eq_true c11
          try have c11b2 : (9223372036854775807 < 16 + t143.size) = False := eq_false (Nat.not_lt.2 c11)
          replace H := Option.bind_eq_some_iff.mp H
          obtain ⟨t144, A120, H⟩ := H
          replace H : (if ((⟨#[127, 69, 76, 70, 1, 2, 1, 0, 0, 0, 0, 0, 0, 0, 0, 0]⟩ : ByteArray) ++ t143).size + t144.size ≤ 9223372036854775807 then ((ferryref13_w.f kj3 1).bind fun t145 => (if (((⟨#[127, 69, 76, 70, 1, 2, 1, 0, 0, 0, 0, 0, 0, 0, 0, 0]⟩ : ByteArray) ++ t143) ++ t144).size + t145.size ≤ 9223372036854775807 then ((ferryref13_w.f kj3 a0_1).bind fun t146 => (if ((((⟨#[127, 69, 76, 70, 1, 2, 1, 0, 0, 0, 0, 0, 0, 0, 0, 0]⟩ : ByteArray) ++ t143) ++ t144) ++ t145).size + t146.size ≤ 9223372036854775807 then ((ferryref13_w.f kj3 52).bind fun t147 => (if (((((⟨#[127, 69, 76, 70, 1, 2, 1, 0, 0, 0, 0, 0, 0, 0, 0, 0]⟩ : ByteArray) ++ t143) ++ t144) ++ t145) ++ t146).size + t147.size ≤ 9223372036854775807 then ((ferryref13_w.f kj3 0).bind fun t148 => (if ((((((⟨#[127, 69, 76, 70, 1, 2, 1, 0, 0, 0, 0, 0, 0, 0, 0, 0]⟩ : ByteArray) ++ t143) ++ t144) ++ t145) ++ t146) ++ t147).size + t148.size ≤ 9223372036854775807 then ((ferryref13_w.f kj3 1879052288).bind fun t149 => (if (((((((⟨#[127, 69, 76, 70, 1, 2, 1, 0, 0, 0, 0, 0, 0, 0, 0, 0]⟩ : ByteArray) ++ t143) ++ t144) ++ t145) ++ t146) ++ t147) ++ t148).size + t149.size ≤ 9223372036854775807 then ((ferryref13_h.f kj3 52).bind fun t150 => (if ((((((((⟨#[127, 69, 76, 70, 1, 2, 1, 0, 0, 0, 0, 0, 0, 0, 0, 0]⟩ : ByteArray) ++ t143) ++ t144) ++ t145) ++ t146) ++ t147) ++ t148) ++ t149).size + t150.size ≤ 9223372036854775807 then ((ferryref13_h.f kj3 32).bind fun t151 => (if (((((((((⟨#[127, 69, 76, 70, 1, 2, 1, 0, 0, 0, 0, 0, 0, 0, 0, 0]⟩ : ByteArray) ++ t143) ++ t144) ++ t145) ++ t146) ++ t147) ++ t148) ++ t149) ++ t150).size + t151.size ≤ 9223372036854775807 then ((ferryref13_h.f kj3 (l0_2.length : Int)).bind fun t152 => (if ((((((((((⟨#[127, 69, 76, 70, 1, 2, 1, 0, 0, 0, 0, 0, 0, 0, 0, 0]⟩ : ByteArray) ++ t143) ++ t144) ++ t145) ++ t146) ++ t147) ++ t148) ++ t149) ++ t150) ++ t151).size + t152.size ≤ 9223372036854775807 then ((ferryref13_h.f kj3 0).bind fun t153 => (if (((((((((((⟨#[127, 69, 76, 70, 1, 2, 1, 0, 0, 0, 0, 0, 0, 0, 0, 0]⟩ : ByteArray) ++ t143) ++ t144) ++ t145) ++ t146) ++ t147) ++ t148) ++ t149) ++ t150) ++ t151) ++ t152).size + t153.size ≤ 9223372036854775807 then ((ferryref13_h.f kj3 0).bind fun t154 => (if ((((((((((((⟨#[127, 69, 76, 70, 1, 2, 1, 0, 0, 0, 0, 0, 0, 0, 0, 0]⟩ : ByteArray) ++ t143) ++ t144) ++ t145) ++ t146) ++ t147) ++ t148) ++ t149) ++ t150) ++ t151) ++ t152) ++ t153).size + t154.size ≤ 9223372036854775807 then ((ferryref13_h.f kj3 0).bind fun t155 => (if (((((((((((((⟨#[127, 69, 76, 70, 1, 2, 1, 0, 0, 0, 0, 0, 0, 0, 0, 0]⟩ : ByteArray) ++ t143) ++ t144) ++ t145) ++ t146) ++ t147) ++ t148) ++ t149) ++ t150) ++ t151) ++ t152) ++ t153) ++ t154).size + t155.size ≤ 9223372036854775807 then (ferryref13_Write.l0 kj3 ((((((((((((((⟨#[127, 69, 76, 70, 1, 2, 1, 0, 0, 0, 0, 0, 0, 0, 0, 0]⟩ : ByteArray) ++ t143) ++ t144) ++ t145) ++ t146) ++ t147) ++ t148) ++ t149) ++ t150) ++ t151) ++ t152) ++ t153) ++ t154) ++ t155) 0 a0_0 a0_1 l0_2) else (none))) else (none))) else (none))) else (none))) else (none))) else (none))) else (none))) else (none))) else (none))) else (none))) else (none))) else (none)) = some r := H
          have A12 := Aside0.mk A120
          clear A120
          by_cases c13 : ((⟨#[127, 69, 76, 70, 1, 2, 1, 0, 0, 0, 0, 0, 0, 0, 0, 0]⟩ : ByteArray) ++ t143).size + t144.size ≤ 9223372036854775807
          · rw [if_pos c13] at H
            have c13b0 := eq_true c13
            have c13b1 : decide (((⟨#[127, 69, 76, 70, 1, 2, 1, 0, 0, 0, 0, 0, 0, 0, 0, 0]⟩ : ByteArray) ++ t143).size + t144.size ≤ 9223372036854775807) = true := decide_eq_true c13
            try have c13b2 : (9223372036854775807 < ((⟨#[127, 69, 76, 70, 1, 2, 1, 0, 0, 0, 0, 0, 0, 0, 0, 0]⟩ : ByteArray) ++ t143).size + t144.size) = False := eq_false (Nat.not_lt.2 c13)
            (try (have c13b3 := c13b2; simp only [ByteArray.size_append, show (⟨#[127, 69, 76, 70, 1, 2, 1, 0, 0, 0, 0, 0, 0, 0, 0, 0]⟩ : ByteArray).size = 16 from rfl] at c13b3))
            replace H := Option.bind_eq_some_iff.mp H
            obtain ⟨t145, A140, H⟩ := H
            replace H : (if (((⟨#[127, 69, 76, 70, 1, 2, 1, 0, 0, 0, 0, 0, 0, 0, 0, 0]⟩ : ByteArray) ++ t143) ++ t144).size + t145.size ≤ 9223372036854775807 then ((ferryref13_w.f kj3 a0_1).bind fun t146 => (if ((((⟨#[127, 69, 76, 70, 1, 2, 1, 0, 0, 0, 0, 0, 0, 0, 0, 0]⟩ : ByteArray) ++ t143) ++ t144) ++ t145).size + t146.size ≤ 9223372036854775807 then ((ferryref13_w.f kj3 52).bind fun t147 => (if (((((⟨#[127, 69, 76, 70, 1, 2, 1, 0, 0, 0, 0, 0, 0, 0, 0, 0]⟩ : ByteArray) ++ t143) ++ t144) ++ t145) ++ t146).size + t147.size ≤ 9223372036854775807 then ((ferryref13_w.f kj3 0).bind fun t148 => (if ((((((⟨#[127, 69, 76, 70, 1, 2, 1, 0, 0, 0, 0, 0, 0, 0, 0, 0]⟩ : ByteArray) ++ t143) ++ t144) ++ t145) ++ t146) ++ t147).size + t148.size ≤ 9223372036854775807 then ((ferryref13_w.f kj3 1879052288).bind fun t149 => (if (((((((⟨#[127, 69, 76, 70, 1, 2, 1, 0, 0, 0, 0, 0, 0, 0, 0, 0]⟩ : ByteArray) ++ t143) ++ t144) ++ t145) ++ t146) ++ t147) ++ t148).size + t149.size ≤ 9223372036854775807 then ((ferryref13_h.f kj3 52).bind fun t150 => (if ((((((((⟨#[127, 69, 76, 70, 1, 2, 1, 0, 0, 0, 0, 0, 0, 0, 0, 0]⟩ : ByteArray) ++ t143) ++ t144) ++ t145) ++ t146) ++ t147) ++ t148) ++ t149).size + t150.size ≤ 9223372036854775807 then ((ferryref13_h.f kj3 32).bind fun t151 => (if (((((((((⟨#[127, 69, 76, 70, 1, 2, 1, 0, 0, 0, 0, 0, 0, 0, 0, 0]⟩ : ByteArray) ++ t143) ++ t144) ++ t145) ++ t146) ++ t147) ++ t148) ++ t149) ++ t150).size + t151.size ≤ 9223372036854775807 then ((ferryref13_h.f kj3 (l0_2.length : Int)).bind fun t152 => (if ((((((((((⟨#[127, 69, 76, 70, 1, 2, 1, 0, 0, 0, 0, 0, 0, 0, 0, 0]⟩ : ByteArray) ++ t143) ++ t144) ++ t145) ++ t146) ++ t147) ++ t148) ++ t149) ++ t150) ++ t151).size + t152.size ≤ 9223372036854775807 then ((ferryref13_h.f kj3 0).bind fun t153 => (if (((((((((((⟨#[127, 69, 76, 70, 1, 2, 1, 0, 0, 0, 0, 0, 0, 0, 0, 0]⟩ : ByteArray) ++ t143) ++ t144) ++ t145) ++ t146) ++ t147) ++ t148) ++ t149) ++ t150) ++ t151) ++ t152).size + t153.size ≤ 9223372036854775807 then ((ferryref13_h.f kj3 0).bind fun t154 => (if ((((((((((((⟨#[127, 69, 76, 70, 1, 2, 1, 0, 0, 0, 0, 0, 0, 0, 0, 0]⟩ : ByteArray) ++ t143) ++ t144) ++ t145) ++ t146) ++ t147) ++ t148) ++ t149) ++ t150) ++ t151) ++ t152) ++ t153).size + t154.size ≤ 9223372036854775807 then ((ferryref13_h.f kj3 0).bind fun t155 => (if (((((((((((((⟨#[127, 69, 76, 70, 1, 2, 1, 0, 0, 0, 0, 0, 0, 0, 0, 0]⟩ : ByteArray) ++ t143) ++ t144) ++ t145) ++ t146) ++ t147) ++ t148) ++ t149) ++ t150) ++ t151) ++ t152) ++ t153) ++ t154).size + t155.size ≤ 9223372036854775807 then (ferryref13_Write.l0 kj3 ((((((((((((((⟨#[127, 69, 76, 70, 1, 2, 1, 0, 0, 0, 0, 0, 0, 0, 0, 0]⟩ : ByteArray) ++ t143) ++ t144) ++ t145) ++ t146) ++ t147) ++ t148) ++ t149) ++ t150) ++ t151) ++ t152) ++ t153) ++ t154) ++ t155) 0 a0_0 a0_1 l0_2) else (none))) else (none))) else (none))) else (none))) else (none))) else (none))) else (none))) else (none))) else (none))) else (none))) else (none)) = some r := H
            have A14 := Aside0.mk A140
            clear A140
            by_cases c15 : (((⟨#[127, 69, 76, 70, 1, 2, 1, 0, 0, 0, 0, 0, 0, 0, 0, 0]⟩ : ByteArray) ++ t143) ++ t144).size + t145.size ≤ 9223372036854775807
            · rw [if_pos c15] at H
              have c15b0 := eq_true c15
              have c15b1 : decide ((((⟨#[127, 69, 76, 70, 1, 2, 1, 0, 0, 0, 0, 0, 0, 0, 0, 0]⟩ : ByteArray) ++ t143) ++ t144).size + t145.size ≤ 9223372036854775807) = true := decide_eq_true c15
              try have c15b2 : (9223372036854775807 < (((⟨#[127, 69, 76, 70, 1, 2, 1, 0, 0, 0, 0, 0, 0, 0, 0, 0]⟩ : ByteArray) ++ t143) ++ t144).size + t145.size) = False := eq_false (Nat.not_lt.2 c15)
              (try (have c15b3 := c15b2; simp only [ByteArray.size_append, show (⟨#[127, 69, 76, 70, 1, 2, 1, 0, 0, 0, 0, 0, 0, 0, 0, 0]⟩ : ByteArray).size = 16 from rfl] at c15b3))
              replace H := Option.bind_eq_some_iff.mp H
              obtain ⟨t146, A160, H⟩ := H
              replace H : (if ((((⟨#[127, 69, 76, 70, 1, 2, 1, 0, 0, 0, 0, 0, 0, 0, 0, 0]⟩ : ByteArray) ++ t143) ++ t144) ++ t145).size + t146.size ≤ 9223372036854775807 then ((ferryref13_w.f kj3 52).bind fun t147 => (if (((((⟨#[127, 69, 76, 70, 1, 2, 1, 0, 0, 0, 0, 0, 0, 0, 0, 0]⟩ : ByteArray) ++ t143) ++ t144) ++ t145) ++ t146).size + t147.size ≤ 9223372036854775807 then ((ferryref13_w.f kj3 0).bind fun t148 => (if ((((((⟨#[127, 69, 76, 70, 1, 2, 1, 0, 0, 0, 0, 0, 0, 0, 0, 0]⟩ : ByteArray) ++ t143) ++ t144) ++ t145) ++ t146) ++ t147).size + t148.size ≤ 9223372036854775807 then ((ferryref13_w.f kj3 1879052288).bind fun t149 => (if (((((((⟨#[127, 69, 76, 70, 1, 2, 1, 0, 0, 0, 0, 0, 0, 0, 0, 0]⟩ : ByteArray) ++ t143) ++ t144) ++ t145) ++ t146) ++ t147) ++ t148).size + t149.size ≤ 9223372036854775807 then ((ferryref13_h.f kj3 52).bind fun t150 => (if ((((((((⟨#[127, 69, 76, 70, 1, 2, 1, 0, 0, 0, 0, 0, 0, 0, 0, 0]⟩ : ByteArray) ++ t143) ++ t144) ++ t145) ++ t146) ++ t147) ++ t148) ++ t149).size + t150.size ≤ 9223372036854775807 then ((ferryref13_h.f kj3 32).bind fun t151 => (if (((((((((⟨#[127, 69, 76, 70, 1, 2, 1, 0, 0, 0, 0, 0, 0, 0, 0, 0]⟩ : ByteArray) ++ t143) ++ t144) ++ t145) ++ t146) ++ t147) ++ t148) ++ t149) ++ t150).size + t151.size ≤ 9223372036854775807 then ((ferryref13_h.f kj3 (l0_2.length : Int)).bind fun t152 => (if ((((((((((⟨#[127, 69, 76, 70, 1, 2, 1, 0, 0, 0, 0, 0, 0, 0, 0, 0]⟩ : ByteArray) ++ t143) ++ t144) ++ t145) ++ t146) ++ t147) ++ t148) ++ t149) ++ t150) ++ t151).size + t152.size ≤ 9223372036854775807 then ((ferryref13_h.f kj3 0).bind fun t153 => (if (((((((((((⟨#[127, 69, 76, 70, 1, 2, 1, 0, 0, 0, 0, 0, 0, 0, 0, 0]⟩ : ByteArray) ++ t143) ++ t144) ++ t145) ++ t146) ++ t147) ++ t148) ++ t149) ++ t150) ++ t151) ++ t152).size + t153.size ≤ 9223372036854775807 then ((ferryref13_h.f kj3 0).bind fun t154 => (if ((((((((((((⟨#[127, 69, 76, 70, 1, 2, 1, 0, 0, 0, 0, 0, 0, 0, 0, 0]⟩ : ByteArray) ++ t143) ++ t144) ++ t145) ++ t146) ++ t147) ++ t148) ++ t149) ++ t150) ++ t151) ++ t152) ++ t153).size + t154.size ≤ 9223372036854775807 then ((ferryref13_h.f kj3 0).bind fun t155 => (if (((((((((((((⟨#[127, 69, 76, 70, 1, 2, 1, 0, 0, 0, 0, 0, 0, 0, 0, 0]⟩ : ByteArray) ++ t143) ++ t144) ++ t145) ++ t146) ++ t147) ++ t148) ++ t149) ++ t150) ++ t151) ++ t152) ++ t153) ++ t154).size + t155.size ≤ 9223372036854775807 then (ferryref13_Write.l0 kj3 ((((((((((((((⟨#[127, 69, 76, 70, 1, 2, 1, 0, 0, 0, 0, 0, 0, 0, 0, 0]⟩ : ByteArray) ++ t143) ++ t144) ++ t145) ++ t146) ++ t147) ++ t148) ++ t149) ++ t150) ++ t151) ++ t152) ++ t153) ++ t154) ++ t155) 0 a0_0 a0_1 l0_2) else (none))) else (none))) else (none))) else (none))) else (none))) else (none))) else (none))) else (none))) else (none))) else (none)) = some r := H
              have A16 := Aside0.mk A160
              clear A160
              by_cases c17 : ((((⟨#[127, 69, 76, 70, 1, 2, 1, 0, 0, 0, 0, 0, 0, 0, 0, 0]⟩ : ByteArray) ++ t143) ++ t144) ++ t145).size + t146.size ≤ 9223372036854775807
              · rw [if_pos c17] at H
                have c17b0 := eq_true c17
                have c17b1 : decide (((((⟨#[127, 69, 76, 70, 1, 2, 1, 0, 0, 0, 0, 0, 0, 0, 0, 0]⟩ : ByteArray) ++ t143) ++ t144) ++ t145).size + t146.size ≤ 9223372036854775807) = true := decide_eq_true c17
                try have c17b2 : (9223372036854775807 < ((((⟨#[127, 69, 76, 70, 1, 2, 1, 0, 0, 0, 0, 0, 0, 0, 0, 0]⟩ : ByteArray) ++ t143) ++ t144) ++ t145).size + t146.size) = False := eq_false (Nat.not_lt.2 c17)
                (try (have c17b3 := c17b2; simp only [ByteArray.size_append, show (⟨#[127, 69, 76, 70, 1, 2, 1, 0, 0, 0, 0, 0, 0, 0, 0, 0]⟩ : ByteArray).size = 16 from rfl] at c17b3))
                replace H := Option.bind_eq_some_iff.mp H
                obtain ⟨t147, A180, H⟩ := H
                replace H : (if (((((⟨#[127, 69, 76, 70, 1, 2, 1, 0, 0, 0, 0, 0, 0, 0, 0, 0]⟩ : ByteArray) ++ t143) ++ t144) ++ t145) ++ t146).size + t147.size ≤ 9223372036854775807 then ((ferryref13_w.f kj3 0).bind fun t148 => (if ((((((⟨#[127, 69, 76, 70, 1, 2, 1, 0, 0, 0, 0, 0, 0, 0, 0, 0]⟩ : ByteArray) ++ t143) ++ t144) ++ t145) ++ t146) ++ t147).size + t148.size ≤ 9223372036854775807 then ((ferryref13_w.f kj3 1879052288).bind fun t149 => (if (((((((⟨#[127, 69, 76, 70, 1, 2, 1, 0, 0, 0, 0, 0, 0, 0, 0, 0]⟩ : ByteArray) ++ t143) ++ t144) ++ t145) ++ t146) ++ t147) ++ t148).size + t149.size ≤ 9223372036854775807 then ((ferryref13_h.f kj3 52).bind fun t150 => (if ((((((((⟨#[127, 69, 76, 70, 1, 2, 1, 0, 0, 0, 0, 0, 0, 0, 0, 0]⟩ : ByteArray) ++ t143) ++ t144) ++ t145) ++ t146) ++ t147) ++ t148) ++ t149).size + t150.size ≤ 9223372036854775807 then ((ferryref13_h.f kj3 32).bind fun t151 => (if (((((((((⟨#[127, 69, 76, 70, 1, 2, 1, 0, 0, 0, 0, 0, 0, 0, 0, 0]⟩ : ByteArray) ++ t143) ++ t144) ++ t145) ++ t146) ++ t147) ++ t148) ++ t149) ++ t150).size + t151.size ≤ 9223372036854775807 then ((ferryref13_h.f kj3 (l0_2.length : Int)).bind fun t152 => (if ((((((((((⟨#[127, 69, 76, 70, 1, 2, 1, 0, 0, 0, 0, 0, 0, 0, 0, 0]⟩ : ByteArray) ++ t143) ++ t144) ++ t145) ++ t146) ++ t147) ++ t148) ++ t149) ++ t150) ++ t151).size + t152.size ≤ 9223372036854775807 then ((ferryref13_h.f kj3 0).bind fun t153 => (if (((((((((((⟨#[127, 69, 76, 70, 1, 2, 1, 0, 0, 0, 0, 0, 0, 0, 0, 0]⟩ : ByteArray) ++ t143) ++ t144) ++ t145) ++ t146) ++ t147) ++ t148) ++ t149) ++ t150) ++ t151) ++ t152).size + t153.size ≤ 9223372036854775807 then ((ferryref13_h.f kj3 0).bind fun t154 => (if ((((((((((((⟨#[127, 69, 76, 70, 1, 2, 1, 0, 0, 0, 0, 0, 0, 0, 0, 0]⟩ : ByteArray) ++ t143) ++ t144) ++ t145) ++ t146) ++ t147) ++ t148) ++ t149) ++ t150) ++ t151) ++ t152) ++ t153).size + t154.size ≤ 9223372036854775807 then ((ferryref13_h.f kj3 0).bind fun t155 => (if (((((((((((((⟨#[127, 69, 76, 70, 1, 2, 1, 0, 0, 0, 0, 0, 0, 0, 0, 0]⟩ : ByteArray) ++ t143) ++ t144) ++ t145) ++ t146) ++ t147) ++ t148) ++ t149) ++ t150) ++ t151) ++ t152) ++ t153) ++ t154).size + t155.size ≤ 9223372036854775807 then (ferryref13_Write.l0 kj3 ((((((((((((((⟨#[127, 69, 76, 70, 1, 2, 1, 0, 0, 0, 0, 0, 0, 0, 0, 0]⟩ : ByteArray) ++ t143) ++ t144) ++ t145) ++ t146) ++ t147) ++ t148) ++ t149) ++ t150) ++ t151) ++ t152) ++ t153) ++ t154) ++ t155) 0 a0_0 a0_1 l0_2) else (none))) else (none))) else (none))) else (none))) else (none))) else (none))) else (none))) else (none))) else (none)) = some r := H
                have A18 := Aside0.mk A180
                clear A180
                by_cases c19 : (((((⟨#[127, 69, 76, 70, 1, 2, 1, 0, 0, 0, 0, 0, 0, 0, 0, 0]⟩ : ByteArray) ++ t143) ++ t144) ++ t145) ++ t146).size + t147.size ≤ 9223372036854775807
                · rw [if_pos c19] at H
                  have c19b0 := eq_true c19
                  have c19b1 : decide ((((((⟨#[127, 69, 76, 70, 1, 2, 1, 0, 0, 0, 0, 0, 0, 0, 0, 0]⟩ : ByteArray) ++ t143) ++ t144) ++ t145) ++ t146).size + t147.size ≤ 9223372036854775807) = true := decide_eq_true c19
                  try have c19b2 : (9223372036854775807 < (((((⟨#[127, 69, 76, 70, 1, 2, 1, 0, 0, 0, 0, 0, 0, 0, 0, 0]⟩ : ByteArray) ++ t143) ++ t144) ++ t145) ++ t146).size + t147.size) = False := eq_false (Nat.not_lt.2 c19)
                  (try (have c19b3 := c19b2; simp only [ByteArray.size_append, show (⟨#[127, 69, 76, 70, 1, 2, 1, 0, 0, 0, 0, 0, 0, 0, 0, 0]⟩ : ByteArray).size = 16 from rfl] at c19b3))
                  replace H := Option.bind_eq_some_iff.mp H
                  obtain ⟨t148, A200, H⟩ := H
                  replace H : (if ((((((⟨#[127, 69, 76, 70, 1, 2, 1, 0, 0, 0, 0, 0, 0, 0, 0, 0]⟩ : ByteArray) ++ t143) ++ t144) ++ t145) ++ t146) ++ t147).size + t148.size ≤ 9223372036854775807 then ((ferryref13_w.f kj3 1879052288).bind fun t149 => (if (((((((⟨#[127, 69, 76, 70, 1, 2, 1, 0, 0, 0, 0, 0, 0, 0, 0, 0]⟩ : ByteArray) ++ t143) ++ t144) ++ t145) ++ t146) ++ t147) ++ t148).size + t149.size ≤ 9223372036854775807 then ((ferryref13_h.f kj3 52).bind fun t150 => (if ((((((((⟨#[127, 69, 76, 70, 1, 2, 1, 0, 0, 0, 0, 0, 0, 0, 0, 0]⟩ : ByteArray) ++ t143) ++ t144) ++ t145) ++ t146) ++ t147) ++ t148) ++ t149).size + t150.size ≤ 9223372036854775807 then ((ferryref13_h.f kj3 32).bind fun t151 => (if (((((((((⟨#[127, 69, 76, 70, 1, 2, 1, 0, 0, 0, 0, 0, 0, 0, 0, 0]⟩ : ByteArray) ++ t143) ++ t144) ++ t145) ++ t146) ++ t147) ++ t148) ++ t149) ++ t150).size + t151.size ≤ 9223372036854775807 then ((ferryref13_h.f kj3 (l0_2.length : Int)).bind fun t152 => (if ((((((((((⟨#[127, 69, 76, 70, 1, 2, 1, 0, 0, 0, 0, 0, 0, 0, 0, 0]⟩ : ByteArray) ++ t143) ++ t144) ++ t145) ++ t146) ++ t147) ++ t148) ++ t149) ++ t150) ++ t151).size + t152.size ≤ 9223372036854775807 then ((ferryref13_h.f kj3 0).bind fun t153 => (if (((((((((((⟨#[127, 69, 76, 70, 1, 2, 1, 0, 0, 0, 0, 0, 0, 0, 0, 0]⟩ : ByteArray) ++ t143) ++ t144) ++ t145) ++ t146) ++ t147) ++ t148) ++ t149) ++ t150) ++ t151) ++ t152).size + t153.size ≤ 9223372036854775807 then ((ferryref13_h.f kj3 0).bind fun t154 => (if ((((((((((((⟨#[127, 69, 76, 70, 1, 2, 1, 0, 0, 0, 0, 0, 0, 0, 0, 0]⟩ : ByteArray) ++ t143) ++ t144) ++ t145) ++ t146) ++ t147) ++ t148) ++ t149) ++ t150) ++ t151) ++ t152) ++ t153).size + t154.size ≤ 9223372036854775807 then ((ferryref13_h.f kj3 0).bind fun t155 => (if (((((((((((((⟨#[127, 69, 76, 70, 1, 2, 1, 0, 0, 0, 0, 0, 0, 0, 0, 0]⟩ : ByteArray) ++ t143) ++ t144) ++ t145) ++ t146) ++ t147) ++ t148) ++ t149) ++ t150) ++ t151) ++ t152) ++ t153) ++ t154).size + t155.size ≤ 9223372036854775807 then (ferryref13_Write.l0 kj3 ((((((((((((((⟨#[127, 69, 76, 70, 1, 2, 1, 0, 0, 0, 0, 0, 0, 0, 0, 0]⟩ : ByteArray) ++ t143) ++ t144) ++ t145) ++ t146) ++ t147) ++ t148) ++ t149) ++ t150) ++ t151) ++ t152) ++ t153) ++ t154) ++ t155) 0 a0_0 a0_1 l0_2) else (none))) else (none))) else (none))) else (none))) else (none))) else (none))) else (none))) else (none)) = some r := H
                  have A20 := Aside0.mk A200
                  clear A200
                  by_cases c21 : ((((((⟨#[127, 69, 76, 70, 1, 2, 1, 0, 0, 0, 0, 0, 0, 0, 0, 0]⟩ : ByteArray) ++ t143) ++ t144) ++ t145) ++ t146) ++ t147).size + t148.size ≤ 9223372036854775807
                  · rw [if_pos c21] at H
                    have c21b0 := eq_true c21
                    have c21b1 : decide (((((((⟨#[127, 69, 76, 70, 1, 2, 1, 0, 0, 0, 0, 0, 0, 0, 0, 0]⟩ : ByteArray) ++ t143) ++ t144) ++ t145) ++ t146) ++ t147).size + t148.size ≤ 9223372036854775807) = true := decide_eq_true c21
                    try have c21b2 : (9223372036854775807 < ((((((⟨#[127, 69, 76, 70, 1, 2, 1, 0, 0, 0, 0, 0, 0, 0, 0, 0]⟩ : ByteArray) ++ t143) ++ t144) ++ t145) ++ t146) ++ t147).size + t148.size) = False := eq_false (Nat.not_lt.2 c21)
                    (try (have c21b3 := c21b2; simp only [ByteArray.size_append, show (⟨#[127, 69, 76, 70, 1, 2, 1, 0, 0, 0, 0, 0, 0, 0, 0, 0]⟩ : ByteArray).size = 16 from rfl] at c21b3))
                    replace H := Option.bind_eq_some_iff.mp H
                    obtain ⟨t149, A220, H⟩ := H
                    replace H : (if (((((((⟨#[127, 69, 76, 70, 1, 2, 1, 0, 0, 0, 0, 0, 0, 0, 0, 0]⟩ : ByteArray) ++ t143) ++ t144) ++ t145) ++ t146) ++ t147) ++ t148).size + t149.size ≤ 9223372036854775807 then ((ferryref13_h.f kj3 52).bind fun t150 => (if ((((((((⟨#[127, 69, 76, 70, 1, 2, 1, 0, 0, 0, 0, 0, 0, 0, 0, 0]⟩ : ByteArray) ++ t143) ++ t144) ++ t145) ++ t146) ++ t147) ++ t148) ++ t149).size + t150.size ≤ 9223372036854775807 then ((ferryref13_h.f kj3 32).bind fun t151 => (if (((((((((⟨#[127, 69, 76, 70, 1, 2, 1, 0, 0, 0, 0, 0, 0, 0, 0, 0]⟩ : ByteArray) ++ t143) ++ t144) ++ t145) ++ t146) ++ t147) ++ t148) ++ t149) ++ t150).size + t151.size ≤ 9223372036854775807 then ((ferryref13_h.f kj3 (l0_2.length : Int)).bind fun t152 => (if ((((((((((⟨#[127, 69, 76, 70, 1, 2, 1, 0, 0, 0, 0, 0, 0, 0, 0, 0]⟩ : ByteArray) ++ t143) ++ t144) ++ t145) ++ t146) ++ t147) ++ t148) ++ t149) ++ t150) ++ t151).size + t152.size ≤ 9223372036854775807 then ((ferryref13_h.f kj3 0).bind fun t153 => (if (((((((((((⟨#[127, 69, 76, 70, 1, 2, 1, 0, 0, 0, 0, 0, 0, 0, 0, 0]⟩ : ByteArray) ++ t143) ++ t144) ++ t145) ++ t146) ++ t147) ++ t148) ++ t149) ++ t150) ++ t151) ++ t152).size + t153.size ≤ 9223372036854775807 then ((ferryref13_h.f kj3 0).bind fun t154 => (if ((((((((((((⟨#[127, 69, 76, 70, 1, 2, 1, 0, 0, 0, 0, 0, 0, 0, 0, 0]⟩ : ByteArray) ++ t143) ++ t144) ++ t145) ++ t146) ++ t147) ++ t148) ++ t149) ++ t150) ++ t151) ++ t152) ++ t153).size + t154.size ≤ 9223372036854775807 then ((ferryref13_h.f kj3 0).bind fun t155 => (if (((((((((((((⟨#[127, 69, 76, 70, 1, 2, 1, 0, 0, 0, 0, 0, 0, 0, 0, 0]⟩ : ByteArray) ++ t143) ++ t144) ++ t145) ++ t146) ++ t147) ++ t148) ++ t149) ++ t150) ++ t151) ++ t152) ++ t153) ++ t154).size + t155.size ≤ 9223372036854775807 then (ferryref13_Write.l0 kj3 ((((((((((((((⟨#[127, 69, 76, 70, 1, 2, 1, 0, 0, 0, 0, 0, 0, 0, 0, 0]⟩ : ByteArray) ++ t143) ++ t144) ++ t145) ++ t146) ++ t147) ++ t148) ++ t149) ++ t150) ++ t151) ++ t152) ++ t153) ++ t154) ++ t155) 0 a0_0 a0_1 l0_2) else (none))) else (none))) else (none))) else (none))) else (none))) else (none))) else (none)) = some r := H
                    have A22 := Aside0.mk A220
                    clear A220
                    by_cases c23 : (((((((⟨#[127, 69, 76, 70, 1, 2, 1, 0, 0, 0, 0, 0, 0, 0, 0, 0]⟩ : ByteArray) ++ t143) ++ t144) ++ t145) ++ t146) ++ t147) ++ t148).size + t149.size ≤ 9223372036854775807
                    · rw [if_pos c23] at H
                      have c23b0 := eq_true c23
                      have c23b1 : decide ((((((((⟨#[127, 69, 76, 70, 1, 2, 1, 0, 0, 0, 0, 0, 0, 0, 0, 0]⟩ : ByteArray) ++ t143) ++ t144) ++ t145) ++ t146) ++ t147) ++ t148).size + t149.size ≤ 9223372036854775807) = true := decide_eq_true c23
                      try have c23b2 : (9223372036854775807 < (((((((⟨#[127, 69, 76, 70, 1, 2, 1, 0, 0, 0, 0, 0, 0, 0, 0, 0]⟩ : ByteArray) ++ t143) ++ t144) ++ t145) ++ t146) ++ t147) ++ t148).size + t149.size) = False := eq_false (Nat.not_lt.2 c23)
                      (try (have c23b3 := c23b2; simp only [ByteArray.size_append, show (⟨#[127, 69, 76, 70, 1, 2, 1, 0, 0, 0, 0, 0, 0, 0, 0, 0]⟩ : ByteArray).size = 16 from rfl] at c23b3))
                      replace H := Option.bind_eq_some_iff.mp H
                      obtain ⟨t150, A240, H⟩ := H
                      replace H : (if ((((((((⟨#[127, 69, 76, 70, 1, 2, 1, 0, 0, 0, 0, 0, 0, 0, 0, 0]⟩ : ByteArray) ++ t143) ++ t144) ++ t145) ++ t146) ++ t147) ++ t148) ++ t149).size + t150.size ≤ 9223372036854775807 then ((ferryref13_h.f kj3 32).bind fun t151 => (if (((((((((⟨#[127, 69, 76, 70, 1, 2, 1, 0, 0, 0, 0, 0, 0, 0, 0, 0]⟩ : ByteArray) ++ t143) ++ t144) ++ t145) ++ t146) ++ t147) ++ t148) ++ t149) ++ t150).size + t151.size ≤ 9223372036854775807 then ((ferryref13_h.f kj3 (l0_2.length : Int)).bind fun t152 => (if ((((((((((⟨#[127, 69, 76, 70, 1, 2, 1, 0, 0, 0, 0, 0, 0, 0, 0, 0]⟩ : ByteArray) ++ t143) ++ t144) ++ t145) ++ t146) ++ t147) ++ t148) ++ t149) ++ t150) ++ t151).size + t152.size ≤ 9223372036854775807 then ((ferryref13_h.f kj3 0).bind fun t153 => (if (((((((((((⟨#[127, 69, 76, 70, 1, 2, 1, 0, 0, 0, 0, 0, 0, 0, 0, 0]⟩ : ByteArray) ++ t143) ++ t144) ++ t145) ++ t146) ++ t147) ++ t148) ++ t149) ++ t150) ++ t151) ++ t152).size + t153.size ≤ 9223372036854775807 then ((ferryref13_h.f kj3 0).bind fun t154 => (if ((((((((((((⟨#[127, 69, 76, 70, 1, 2, 1, 0, 0, 0, 0, 0, 0, 0, 0, 0]⟩ : ByteArray) ++ t143) ++ t144) ++ t145) ++ t146) ++ t147) ++ t148) ++ t149) ++ t150) ++ t151) ++ t152) ++ t153).size + t154.size ≤ 9223372036854775807 then ((ferryref13_h.f kj3 0).bind fun t155 => (if (((((((((((((⟨#[127, 69, 76, 70, 1, 2, 1, 0, 0, 0, 0, 0, 0, 0, 0, 0]⟩ : ByteArray) ++ t143) ++ t144) ++ t145) ++ t146) ++ t147) ++ t148) ++ t149) ++ t150) ++ t151) ++ t152) ++ t153) ++ t154).size + t155.size ≤ 9223372036854775807 then (ferryref13_Write.l0 kj3 ((((((((((((((⟨#[127, 69, 76, 70, 1, 2, 1, 0, 0, 0, 0, 0, 0, 0, 0, 0]⟩ : ByteArray) ++ t143) ++ t144) ++ t145) ++ t146) ++ t147) ++ t148) ++ t149) ++ t150) ++ t151) ++ t152) ++ t153) ++ t154) ++ t155) 0 a0_0 a0_1 l0_2) else (none))) else (none))) else (none))) else (none))) else (none))) else (none)) = some r := H
                      have A24 := Aside0.mk A240
                      clear A240
                      by_cases c25 : ((((((((⟨#[127, 69, 76, 70, 1, 2, 1, 0, 0, 0, 0, 0, 0, 0, 0, 0]⟩ : ByteArray) ++ t143) ++ t144) ++ t145) ++ t146) ++ t147) ++ t148) ++ t149).size + t150.size ≤ 9223372036854775807
                      · rw [if_pos c25] at H
                        have c25b0 := eq_true c25
                        have c25b1 : decide (((((((((⟨#[127, 69, 76, 70, 1, 2, 1, 0, 0, 0, 0, 0, 0, 0, 0, 0]⟩ : ByteArray) ++ t143) ++ t144) ++ t145) ++ t146) ++ t147) ++ t148) ++ t149).size + t150.size ≤ 9223372036854775807) = true := decide_eq_true c25
                        try have c25b2 : (9223372036854775807 < ((((((((⟨#[127, 69, 76, 70, 1, 2, 1, 0, 0, 0, 0, 0, 0, 0, 0, 0]⟩ : ByteArray) ++ t143) ++ t144) ++ t145) ++ t146) ++ t147) ++ t148) ++ t149).size + t150.size) = False := eq_false (Nat.not_lt.2 c25)
                        (try (have c25b3 := c25b2; simp only [ByteArray.size_append, show (⟨#[127, 69, 76, 70, 1, 2, 1, 0, 0, 0, 0, 0, 0, 0, 0, 0]⟩ : ByteArray).size = 16 from rfl] at c25b3))
                        replace H := Option.bind_eq_some_iff.mp H
                        obtain ⟨t151, A260, H⟩ := H
                        replace H : (if (((((((((⟨#[127, 69, 76, 70, 1, 2, 1, 0, 0, 0, 0, 0, 0, 0, 0, 0]⟩ : ByteArray) ++ t143) ++ t144) ++ t145) ++ t146) ++ t147) ++ t148) ++ t149) ++ t150).size + t151.size ≤ 9223372036854775807 then ((ferryref13_h.f kj3 (l0_2.length : Int)).bind fun t152 => (if ((((((((((⟨#[127, 69, 76, 70, 1, 2, 1, 0, 0, 0, 0, 0, 0, 0, 0, 0]⟩ : ByteArray) ++ t143) ++ t144) ++ t145) ++ t146) ++ t147) ++ t148) ++ t149) ++ t150) ++ t151).size + t152.size ≤ 9223372036854775807 then ((ferryref13_h.f kj3 0).bind fun t153 => (if (((((((((((⟨#[127, 69, 76, 70, 1, 2, 1, 0, 0, 0, 0, 0, 0, 0, 0, 0]⟩ : ByteArray) ++ t143) ++ t144) ++ t145) ++ t146) ++ t147) ++ t148) ++ t149) ++ t150) ++ t151) ++ t152).size + t153.size ≤ 9223372036854775807 then ((ferryref13_h.f kj3 0).bind fun t154 => (if ((((((((((((⟨#[127, 69, 76, 70, 1, 2, 1, 0, 0, 0, 0, 0, 0, 0, 0, 0]⟩ : ByteArray) ++ t143) ++ t144) ++ t145) ++ t146) ++ t147) ++ t148) ++ t149) ++ t150) ++ t151) ++ t152) ++ t153).size + t154.size ≤ 9223372036854775807 then ((ferryref13_h.f kj3 0).bind fun t155 => (if (((((((((((((⟨#[127, 69, 76, 70, 1, 2, 1, 0, 0, 0, 0, 0, 0, 0, 0, 0]⟩ : ByteArray) ++ t143) ++ t144) ++ t145) ++ t146) ++ t147) ++ t148) ++ t149) ++ t150) ++ t151) ++ t152) ++ t153) ++ t154).size + t155.size ≤ 9223372036854775807 then (ferryref13_Write.l0 kj3 ((((((((((((((⟨#[127, 69, 76, 70, 1, 2, 1, 0, 0, 0, 0, 0, 0, 0, 0, 0]⟩ : ByteArray) ++ t143) ++ t144) ++ t145) ++ t146) ++ t147) ++ t148) ++ t149) ++ t150) ++ t151) ++ t152) ++ t153) ++ t154) ++ t155) 0 a0_0 a0_1 l0_2) else (none))) else (none))) else (none))) else (none))) else (none)) = some r := H
                        have A26 := Aside0.mk A260
                        clear A260
                        by_cases c27 : (((((((((⟨#[127, 69, 76, 70, 1, 2, 1, 0, 0, 0, 0, 0, 0, 0, 0, 0]⟩ : ByteArray) ++ t143) ++ t144) ++ t145) ++ t146) ++ t147) ++ t148) ++ t149) ++ t150).size + t151.size ≤ 9223372036854775807
                        · rw [if_pos c27] at H
                          have c27b0 := eq_true c27
                          have c27b1 : decide ((((((((((⟨#[127, 69, 76, 70, 1, 2, 1, 0, 0, 0, 0, 0, 0, 0, 0, 0]⟩ : ByteArray) ++ t143) ++ t144) ++ t145) ++ t146) ++ t147) ++ t148) ++ t149) ++ t150).size + t151.size ≤ 9223372036854775807) = true := decide_eq_true c27
                          try have c27b2 : (9223372036854775807 < (((((((((⟨#[127, 69, 76, 70, 1, 2, 1, 0, 0, 0, 0, 0, 0, 0, 0, 0]⟩ : ByteArray) ++ t143) ++ t144) ++ t145) ++ t146) ++ t147) ++ t148) ++ t149) ++ t150).size + t151.size) = False := eq_false (Nat.not_lt.2 c27)
                          (try (have c27b3 := c27b2; simp only [ByteArray.size_append, show (⟨#[127, 69, 76, 70, 1, 2, 1, 0, 0, 0, 0, 0, 0, 0, 0, 0]⟩ : ByteArray).size = 16 from rfl] at c27b3))
                          replace H := Option.bind_eq_some_iff.mp H
                          obtain ⟨t152, A280, H⟩ := H
                          replace H : (if ((((((((((⟨#[127, 69, 76, 70, 1, 2, 1, 0, 0, 0, 0, 0, 0, 0, 0, 0]⟩ : ByteArray) ++ t143) ++ t144) ++ t145) ++ t146) ++ t147) ++ t148) ++ t149) ++ t150) ++ t151).size + t152.size ≤ 9223372036854775807 then ((ferryref13_h.f kj3 0).bind fun t153 => (if (((((((((((⟨#[127, 69, 76, 70, 1, 2, 1, 0, 0, 0, 0, 0, 0, 0, 0, 0]⟩ : ByteArray) ++ t143) ++ t144) ++ t145) ++ t146) ++ t147) ++ t148) ++ t149) ++ t150) ++ t151) ++ t152).size + t153.size ≤ 9223372036854775807 then ((ferryref13_h.f kj3 0).bind fun t154 => (if ((((((((((((⟨#[127, 69, 76, 70, 1, 2, 1, 0, 0, 0, 0, 0, 0, 0, 0, 0]⟩ : ByteArray) ++ t143) ++ t144) ++ t145) ++ t146) ++ t147) ++ t148) ++ t149) ++ t150) ++ t151) ++ t152) ++ t153).size + t154.size ≤ 9223372036854775807 then ((ferryref13_h.f kj3 0).bind fun t155 => (if (((((((((((((⟨#[127, 69, 76, 70, 1, 2, 1, 0, 0, 0, 0, 0, 0, 0, 0, 0]⟩ : ByteArray) ++ t143) ++ t144) ++ t145) ++ t146) ++ t147) ++ t148) ++ t149) ++ t150) ++ t151) ++ t152) ++ t153) ++ t154).size + t155.size ≤ 9223372036854775807 then (ferryref13_Write.l0 kj3 ((((((((((((((⟨#[127, 69, 76, 70, 1, 2, 1, 0, 0, 0, 0, 0, 0, 0, 0, 0]⟩ : ByteArray) ++ t143) ++ t144) ++ t145) ++ t146) ++ t147) ++ t148) ++ t149) ++ t150) ++ t151) ++ t152) ++ t153) ++ t154) ++ t155) 0 a0_0 a0_1 l0_2) else (none))) else (none))) else (none))) else (none)) = some r := H
                          have A28 := Aside0.mk A280
                          clear A280
                          by_cases c29 : ((((((((((⟨#[127, 69, 76, 70, 1, 2, 1, 0, 0, 0, 0, 0, 0, 0, 0, 0]⟩ : ByteArray) ++ t143) ++ t144) ++ t145) ++ t146) ++ t147) ++ t148) ++ t149) ++ t150) ++ t151).size + t152.size ≤ 9223372036854775807
                          · rw [if_pos c29] at H
                            have c29b0 := eq_true c29
                            have c29b1 : decide (((((((((((⟨#[127, 69, 76, 70, 1, 2, 1, 0, 0, 0, 0, 0, 0, 0, 0, 0]⟩ : ByteArray) ++ t143) ++ t144) ++ t145) ++ t146) ++ t147) ++ t148) ++ t149) ++ t150) ++ t151).size + t152.size ≤ 9223372036854775807) = true := decide_eq_true c29
                            try have c29b2 : (9223372036854775807 < ((((((((((⟨#[127, 69, 76, 70, 1, 2, 1, 0, 0, 0, 0, 0, 0, 0, 0, 0]⟩ : ByteArray) ++ t143) ++ t144) ++ t145) ++ t146) ++ t147) ++ t148) ++ t149) ++ t150) ++ t151).size + t152.size) = False := eq_false (Nat.not_lt.2 c29)
                            (try (have c29b3 := c29b2; simp only [ByteArray.size_append, show (⟨#[127, 69, 76, 70, 1, 2, 1, 0, 0, 0, 0, 0, 0, 0, 0, 0]⟩ : ByteArray).size = 16 from rfl] at c29b3))
                            replace H := Option.bind_eq_some_iff.mp H
                            obtain ⟨t153, A300, H⟩ := H
                            replace H : (if (((((((((((⟨#[127, 69, 76, 70, 1, 2, 1, 0, 0, 0, 0, 0, 0, 0, 0, 0]⟩ : ByteArray) ++ t143) ++ t144) ++ t145) ++ t146) ++ t147) ++ t148) ++ t149) ++ t150) ++ t151) ++ t152).size + t153.size ≤ 9223372036854775807 then ((ferryref13_h.f kj3 0).bind fun t154 => (if ((((((((((((⟨#[127, 69, 76, 70, 1, 2, 1, 0, 0, 0, 0, 0, 0, 0, 0, 0]⟩ : ByteArray) ++ t143) ++ t144) ++ t145) ++ t146) ++ t147) ++ t148) ++ t149) ++ t150) ++ t151) ++ t152) ++ t153).size + t154.size ≤ 9223372036854775807 then ((ferryref13_h.f kj3 0).bind fun t155 => (if (((((((((((((⟨#[127, 69, 76, 70, 1, 2, 1, 0, 0, 0, 0, 0, 0, 0, 0, 0]⟩ : ByteArray) ++ t143) ++ t144) ++ t145) ++ t146) ++ t147) ++ t148) ++ t149) ++ t150) ++ t151) ++ t152) ++ t153) ++ t154).size + t155.size ≤ 9223372036854775807 then (ferryref13_Write.l0 kj3 ((((((((((((((⟨#[127, 69, 76, 70, 1, 2, 1, 0, 0, 0, 0, 0, 0, 0, 0, 0]⟩ : ByteArray) ++ t143) ++ t144) ++ t145) ++ t146) ++ t147) ++ t148) ++ t149) ++ t150) ++ t151) ++ t152) ++ t153) ++ t154) ++ t155) 0 a0_0 a0_1 l0_2) else (none))) else (none))) else (none)) = some r := H
                            have A30 := Aside0.mk A300
                            clear A300
                            by_cases c31 : (((((((((((⟨#[127, 69, 76, 70, 1, 2, 1, 0, 0, 0, 0, 0, 0, 0, 0, 0]⟩ : ByteArray) ++ t143) ++ t144) ++ t145) ++ t146) ++ t147) ++ t148) ++ t149) ++ t150) ++ t151) ++ t152).size + t153.size ≤ 9223372036854775807
                            · rw [if_pos c31] at H
                              have c31b0 := eq_true c31
                              have c31b1 : decide ((((((((((((⟨#[127, 69, 76, 70, 1, 2, 1, 0, 0, 0, 0, 0, 0, 0, 0, 0]⟩ : ByteArray) ++ t143) ++ t144) ++ t145) ++ t146) ++ t147) ++ t148) ++ t149) ++ t150) ++ t151) ++ t152).size + t153.size ≤ 9223372036854775807) = true := decide_eq_true c31
                              try have c31b2 : (9223372036854775807 < (((((((((((⟨#[127, 69, 76, 70, 1, 2, 1, 0, 0, 0, 0, 0, 0, 0, 0, 0]⟩ : ByteArray) ++ t143) ++ t144) ++ t145) ++ t146) ++ t147) ++ t148) ++ t149) ++ t150) ++ t151) ++ t152).size + t153.size) = False := eq_false (Nat.not_lt.2 c31)
                              (try (have c31b3 := c31b2; simp only [ByteArray.size_append, show (⟨#[127, 69, 76, 70, 1, 2, 1, 0, 0, 0, 0, 0, 0, 0, 0, 0]⟩ : ByteArray).size = 16 from rfl] at c31b3))
                              replace H := Option.bind_eq_some_iff.mp H
                              obtain ⟨t154, A320, H⟩ := H
                              replace H : (if ((((((((((((⟨#[127, 69, 76, 70, 1, 2, 1, 0, 0, 0, 0, 0, 0, 0, 0, 0]⟩ : ByteArray) ++ t143) ++ t144) ++ t145) ++ t146) ++ t147) ++ t148) ++ t149) ++ t150) ++ t151) ++ t152) ++ t153).size + t154.size ≤ 9223372036854775807 then ((ferryref13_h.f kj3 0).bind fun t155 => (if (((((((((((((⟨#[127, 69, 76, 70, 1, 2, 1, 0, 0, 0, 0, 0, 0, 0, 0, 0]⟩ : ByteArray) ++ t143) ++ t144) ++ t145) ++ t146) ++ t147) ++ t148) ++ t149) ++ t150) ++ t151) ++ t152) ++ t153) ++ t154).size + t155.size ≤ 9223372036854775807 then (ferryref13_Write.l0 kj3 ((((((((((((((⟨#[127, 69, 76, 70, 1, 2, 1, 0, 0, 0, 0, 0, 0, 0, 0, 0]⟩ : ByteArray) ++ t143) ++ t144) ++ t145) ++ t146) ++ t147) ++ t148) ++ t149) ++ t150) ++ t151) ++ t152) ++ t153) ++ t154) ++ t155) 0 a0_0 a0_1 l0_2) else (none))) else (none)) = some r := H
                              have A32 := Aside0.mk A320
                              clear A320
                              by_cases c33 : ((((((((((((⟨#[127, 69, 76, 70, 1, 2, 1, 0, 0, 0, 0, 0, 0, 0, 0, 0]⟩ : ByteArray) ++ t143) ++ t144) ++ t145) ++ t146) ++ t147) ++ t148) ++ t149) ++ t150) ++ t151) ++ t152) ++ t153).size + t154.size ≤ 9223372036854775807
                              · rw [if_pos c33] at H
                                have c33b0 := eq_true c33
                                have c33b1 : decide (((((((((((((⟨#[127, 69, 76, 70, 1, 2, 1, 0, 0, 0, 0, 0, 0, 0, 0, 0]⟩ : ByteArray) ++ t143) ++ t144) ++ t145) ++ t146) ++ t147) ++ t148) ++ t149) ++ t150) ++ t151) ++ t152) ++ t153).size + t154.size ≤ 9223372036854775807) = true := decide_eq_true c33
                                try have c33b2 : (9223372036854775807 < ((((((((((((⟨#[127, 69, 76, 70, 1, 2, 1, 0, 0, 0, 0, 0, 0, 0, 0, 0]⟩ : ByteArray) ++ t143) ++ t144) ++ t145) ++ t146) ++ t147) ++ t148) ++ t149) ++ t150) ++ t151) ++ t152) ++ t153).size + t154.size) = False := eq_false (Nat.not_lt.2 c33)
                                (try (have c33b3 := c33b2; simp only [ByteArray.size_append, show (⟨#[127, 69, 76, 70, 1, 2, 1, 0, 0, 0, 0, 0, 0, 0, 0, 0]⟩ : ByteArray).size = 16 from rfl] at c33b3))
                                replace H := Option.bind_eq_some_iff.mp H
                                obtain ⟨t155, A340, H⟩ := H
                                replace H : (if (((((((((((((⟨#[127, 69, 76, 70, 1, 2, 1, 0, 0, 0, 0, 0, 0, 0, 0, 0]⟩ : ByteArray) ++ t143) ++ t144) ++ t145) ++ t146) ++ t147) ++ t148) ++ t149) ++ t150) ++ t151) ++ t152) ++ t153) ++ t154).size + t155.size ≤ 9223372036854775807 then (ferryref13_Write.l0 kj3 ((((((((((((((⟨#[127, 69, 76, 70, 1, 2, 1, 0, 0, 0, 0, 0, 0, 0, 0, 0]⟩ : ByteArray) ++ t143) ++ t144) ++ t145) ++ t146) ++ t147) ++ t148) ++ t149) ++ t150) ++ t151) ++ t152) ++ t153) ++ t154) ++ t155) 0 a0_0 a0_1 l0_2) else (none)) = some r := H
                                have A34 := Aside0.mk A340
                                clear A340
                                by_cases c35 : (((((((((((((⟨#[127, 69, 76, 70, 1, 2, 1, 0, 0, 0, 0, 0, 0, 0, 0, 0]⟩ : ByteArray) ++ t143) ++ t144) ++ t145) ++ t146) ++ t147) ++ t148) ++ t149) ++ t150) ++ t151) ++ t152) ++ t153) ++ t154).size + t155.size ≤ 9223372036854775807
                                · rw [if_pos c35] at H
                                  have c35b0 := eq_true c35
                                  have c35b1 : decide ((((((((((((((⟨#[127, 69, 76, 70, 1, 2, 1, 0, 0, 0, 0, 0, 0, 0, 0, 0]⟩ : ByteArray) ++ t143) ++ t144) ++ t145) ++ t146) ++ t147) ++ t148) ++ t149) ++ t150) ++ t151) ++ t152) ++ t153) ++ t154).size + t155.size ≤ 9223372036854775807) = true := decide_eq_true c35
                                  try have c35b2 : (9223372036854775807 < (((((((((((((⟨#[127, 69, 76, 70, 1, 2, 1, 0, 0, 0, 0, 0, 0, 0, 0, 0]⟩ : ByteArray) ++ t143) ++ t144) ++ t145) ++ t146) ++ t147) ++ t148) ++ t149) ++ t150) ++ t151) ++ t152) ++ t153) ++ t154).size + t155.size) = False := eq_false (Nat.not_lt.2 c35)
                                  (try (have c35b3 := c35b2; simp only [ByteArray.size_append, show (⟨#[127, 69, 76, 70, 1, 2, 1, 0, 0, 0, 0, 0, 0, 0, 0, 0]⟩ : ByteArray).size = 16 from rfl] at c35b3))
                                  have H' := Aside0.mk H
                                  clear H
                                  try go_wp2
                                  have n0_ := Aside0.mk (blk_drew BK141.out)
                                  have n1_ := Aside0.mk (below_drew1 HB.out)
                                  clear BK141
                                  clear HB
                                  have BK141 := n0_
                                  have HB := n1_
                                  clear n0_ n1_
                                  refine start_ (n := 33) (S := fun w' => w'.cell? ⟨gb141, 0, none⟩ = some (.bool a0_0) ∧ w'.cell? ⟨gb141, 1, none⟩ = some (.int .u32 a0_1) ∧ w'.cell? ⟨gb141, 2, none⟩ = some (.slice A0_2 l0_2.length c0_2)) (ds := []) #[false, false, false, false, false, false, false, false, false, false, false, false, false, false, false, false, false, false, false, false, false, false, false, false, false, false, false, false, false, false, false, false, false] (by kernel_rfl) rfl rfl ⟨(blk_cell BK141.out 0).trans rfl, (blk_cell BK141.out 1).trans rfl, (blk_cell BK141.out 2).trans rfl⟩ (fun hHeld => ?_); refine with_tabW ferryref13_Write.tab6 ferryref13_Write.bits6 (fun HT_ HW_ => ?_)
                                  generalize wc.drew = w36 at BK141 HB hHeld ⊢
                                  refine pure_ (i := 0) (N := some 12) (v := ?_) (a' := ?_) #[true, false, false, false, false, false, false, false, false, false, false, false, false, false, false, false, false, false, false, false, false, false, false, false, false, false, false, false, false, false, false, false, false] rfl rfl (any_of HT_.out (by kernel_rfl)) (fun _ _ _ h => h) (Or.inl ⟨by rfl, ?_⟩) ?_ ?_
                                  rotate_left
                                  · intro w'
                                    go_simp
                                    with_reducible rfl
                                  rotate_left
                                  · simp only [Act.put, List.setIfInBounds_toArray, List.set_cons_zero, List.set_cons_succ, i64_w, i32_w]
                                    rfl
                                  refine pure_ (i := 7) (N := some 19) (v := ?_) (a' := ?_) #[true, false, false, false, false, false, false, true, false, false, false, false, false, false, false, false, false, false, false, false, false, false, false, false, false, false, false, false, false, false, false, false, false] rfl rfl (any_of HT_.out (by kernel_rfl)) (fun _ _ _ h => h) (Or.inl ⟨by rfl, ?_⟩) ?_ ?_
                                  rotate_left
                                  · intro w'
                                    go_simp
                                    with_reducible rfl
                                  rotate_left
                                  · simp only [Act.put, List.setIfInBounds_toArray, List.set_cons_zero, List.set_cons_succ, i64_w, i32_w]
                                    rfl
                                  refine pure_ (i := 21) (N := some 33) (v := ?_) (a' := ?_) #[true, false, false, false, false, false, false, true, false, false, false, false, false, false, false, false, false, false, false, false, false, true, false, false, false, false, false, false, false, false, false, false, false] rfl rfl (any_of HT_.out (by kernel_rfl)) (fun _ _ _ h => h) (Or.inl ⟨by rfl, ?_⟩) ?_ ?_
                                  rotate_left
                                  · intro w'
                                    go_simp
                                    with_reducible rfl
                                  rotate_left
                                  · simp only [Act.put, List.setIfInBounds_toArray, List.set_cons_zero, List.set_cons_succ, i64_w, i32_w]
                                    rfl
                                  refine take_ (i := 8) (N := some 20) (v := ?_) (a' := ?_) #[true, false, false, false, false, false, false, true, true, false, false, false, false, false, false, false, false, false, false, false, false, true, false, false, false, false, false, false, false, false, false, false, false] rfl rfl (take_ofW HT_.out HW_.out (by kernel_rfl)) (fun _ _ _ h => h) (Or.inl ⟨by rfl, ?_⟩) hHeld ?_ ?_
                                  rotate_left
                                  · rintro w' ⟨s0, s1, s2⟩
                                    go_simp
                                    with_reducible rfl
                                  rotate_left
                                  · simp only [Act.put, List.setIfInBounds_toArray, List.set_cons_zero, List.set_cons_succ, i64_w, i32_w]
                                    rfl
                                  refine take_ (i := 22) (N := some 34) (v := ?_) (a' := ?_) #[true, false, false, false, false, false, false, true, true, false, false, false, false, false, false, false, false, false, false, false, false, true, true, false, false, false, false, false, false, false, false, false, false] rfl rfl (take_ofW HT_.out HW_.out (by kernel_rfl)) (fun _ _ _ h => h) (Or.inl ⟨by rfl, ?_⟩) hHeld ?_ ?_
                                  rotate_left
                                  · rintro w' ⟨s0, s1, s2⟩
                                    go_simp
                                    with_reducible rfl
                                  rotate_left
                                  · simp only [Act.put, List.setIfInBounds_toArray, List.set_cons_zero, List.set_cons_succ, i64_w, i32_w]
                                    rfl
                                  refine pure_ (i := 23) (N := some 35) (v := ?_) (a' := ?_) #[true, false, false, false, false, false, false, true, true, false, false, false, false, false, false, false, false, false, false, false, false, true, true, true, false, false, false, false, false, false, false, false, false] rfl rfl (any_of HT_.out (by kernel_rfl)) (fun _ _ _ h => h) (Or.inl ⟨by rfl, ?_⟩) ?_ ?_
                                  rotate_left
                                  · intro w'
                                    go_simp
                                    with_reducible rfl
                                  rotate_left
                                  · simp only [Act.put, List.setIfInBounds_toArray, List.set_cons_zero, List.set_cons_succ, i64_w, i32_w]
                                    rfl
                                  refine one_ (i := 1) (N := some 13) #[true, true, false, false, false, false, false, true, true, false, false, false, false, false, false, false, false, false, false, false, false, true, true, true, false, false, false, false, false, false, false, false, false] rfl rfl (one_of HT_.out (by kernel_rfl)) (by decide) (fun K hK => ?_)
                                  refine goes_ Try.func32 (by kernel_rfl) rfl #[.int .i64 x3_3] (by rfl) rfl rfl (by (try simp only [List.map_toArray, List.map_cons, List.map_nil]); first | done | rfl | (simp only [List.length_drop, List.length_take]; rfl)) ?_
                                  with_reducible refine (ferryref13_h.calls kj3 x3_3 t143 _ A10.out).mono ?_
                                  rintro e w37 ⟨rfl, hb⟩
                                  refine ⟨_, rfl, ?_⟩
                                  have n0_ := Aside0.mk (blk_below (g := gb141) (o := .cells #[.bool a0_0, .int .u32 a0_1, .slice A0_2 l0_2.length c0_2] 26 (0, 0)) (by (with_reducible repeat (first | refine blk_drewN ?_ _ | refine blk_drew ?_ | refine blk_alloc ?_ _)); exact BK141.out) hb)
                                  have n1_ := Aside0.mk (below_step (by repeat (first | (with_reducible first | exact HB.out | apply below_alloc | apply pw_below_drewN | apply below_drew1 | refine below_set ?_ GE141.out) | exact HB.out)) hb)
                                  clear BK141
                                  clear HB
                                  have BK141 := n0_
                                  have HB := n1_
                                  clear n0_ n1_
                                  (try clear hb)
                                  (try clear hb2)
                                  (try clear hk)
                                  (try clear hi)
                                  refine hK.out _ _ ⟨(blk_cell BK141.out 0).trans rfl, (blk_cell BK141.out 1).trans rfl, (blk_cell BK141.out 2).trans rfl⟩ (fun hHeld => ?_)
                                  clear hK K
                                  refine norm_ (a' := ?_) ?_ ?_
                                  rotate_left
                                  · show Act.put _ (some 13) _ = _
                                    simp only [Act.put, List.setIfInBounds_toArray, List.set_cons_zero, List.set_cons_succ, i64_w, i32_w]
                                    rfl
                                  refine pure_ (i := 2) (N := some 14) (v := ?_) (a' := ?_) #[true, true, true, false, false, false, false, true, true, false, false, false, false, false, false, false, false, false, false, false, false, true, true, true, false, false, false, false, false, false, false, false, false] rfl rfl (any_of HT_.out (by kernel_rfl)) (fun _ _ _ h => h) (Or.inl ⟨by rfl, ?_⟩) ?_ ?_
                                  rotate_left
                                  · intro w'
                                    go_simp
                                    with_reducible rfl
                                  rotate_left
                                  · simp only [Act.put, List.setIfInBounds_toArray, List.set_cons_zero, List.set_cons_succ, i64_w, i32_w]
                                    rfl
                                  refine one_ (i := 3) (N := some 15) #[true, true, true, true, false, false, false, true, true, false, false, false, false, false, false, false, false, false, false, false, false, true, true, true, false, false, false, false, false, false, false, false, false] rfl rfl (one_of HT_.out (by kernel_rfl)) (by decide) (fun K hK => ?_)
                                  refine goes_ Try.func32 (by kernel_rfl) rfl #[.int .i64 8] (by rfl) rfl rfl (by (try simp only [List.map_toArray, List.map_cons, List.map_nil]); first | done | rfl | (simp only [List.length_drop, List.length_take]; rfl)) ?_
                                  with_reducible refine (ferryref13_h.calls kj3 8 t144 _ A12.out).mono ?_
                                  rintro e w38 ⟨rfl, hb⟩
                                  refine ⟨_, rfl, ?_⟩
                                  have n0_ := Aside0.mk (blk_below (g := gb141) (o := .cells #[.bool a0_0, .int .u32 a0_1, .slice A0_2 l0_2.length c0_2] 26 (0, 0)) (by (with_reducible repeat (first | refine blk_drewN ?_ _ | refine blk_drew ?_ | refine blk_alloc ?_ _)); exact BK141.out) hb)
                                  have n1_ := Aside0.mk (below_step (by repeat (first | (with_reducible first | exact HB.out | apply below_alloc | apply pw_below_drewN | apply below_drew1 | refine below_set ?_ GE141.out) | exact HB.out)) hb)
                                  clear BK141
                                  clear HB
                                  have BK141 := n0_
                                  have HB := n1_
                                  clear n0_ n1_
                                  (try clear hb)
                                  (try clear hb2)
                                  (try clear hk)
                                  (try clear hi)
                                  refine hK.out _ _ ⟨(blk_cell BK141.out 0).trans rfl, (blk_cell BK141.out 1).trans rfl, (blk_cell BK141.out 2).trans rfl⟩ (fun hHeld => ?_)
                                  clear hK K
                                  refine norm_ (a' := ?_) ?_ ?_
                                  rotate_left
                                  · show Act.put _ (some 15) _ = _
                                    simp only [Act.put, List.setIfInBounds_toArray, List.set_cons_zero, List.set_cons_succ, i64_w, i32_w]
                                    rfl
                                  refine pure_ (i := 4) (N := some 16) (v := ?_) (a' := ?_) #[true, true, true, true, true, false, false, true, true, false, false, false, false, false, false, false, false, false, false, false, false, true, true, true, false, false, false, false, false, false, false, false, false] rfl rfl (any_of HT_.out (by kernel_rfl)) (fun _ _ _ h => h) (Or.inl ⟨by rfl, ?_⟩) ?_ ?_
                                  rotate_left
                                  · intro w'
                                    go_simp
                                    with_reducible rfl
                                  rotate_left
                                  · simp only [Act.put, List.setIfInBounds_toArray, List.set_cons_zero, List.set_cons_succ, i64_w, i32_w]
                                    rfl
                                  refine one_ (i := 5) (N := some 17) #[true, true, true, true, true, true, false, true, true, false, false, false, false, false, false, false, false, false, false, false, false, true, true, true, false, false, false, false, false, false, false, false, false] rfl rfl (one_of HT_.out (by kernel_rfl)) (by decide) (fun K hK => ?_)
                                  refine goes_ Try.func33 (by kernel_rfl) rfl #[.int .u32 1] (by rfl) rfl rfl (by (try simp only [List.map_toArray, List.map_cons, List.map_nil]); first | done | rfl | (simp only [List.length_drop, List.length_take]; rfl)) ?_
                                  with_reducible refine (ferryref13_w.calls kj3 1 t145 _ A14.out).mono ?_
                                  rintro e w39 ⟨rfl, hb⟩
                                  refine ⟨_, rfl, ?_⟩
                                  have n0_ := Aside0.mk (blk_below (g := gb141) (o := .cells #[.bool a0_0, .int .u32 a0_1, .slice A0_2 l0_2.length c0_2] 26 (0, 0)) (by (with_reducible repeat (first | refine blk_drewN ?_ _ | refine blk_drew ?_ | refine blk_alloc ?_ _)); exact BK141.out) hb)
                                  have n1_ := Aside0.mk (below_step (by repeat (first | (with_reducible first | exact HB.out | apply below_alloc | apply pw_below_drewN | apply below_drew1 | refine below_set ?_ GE141.out) | exact HB.out)) hb)
                                  clear BK141
                                  clear HB
                                  have BK141 := n0_
                                  have HB := n1_
                                  clear n0_ n1_
                                  (try clear hb)
                                  (try clear hb2)
                                  (try clear hk)
                                  (try clear hi)
                                  refine hK.out _ _ ⟨(blk_cell BK141.out 0).trans rfl, (blk_cell BK141.out 1).trans rfl, (blk_cell BK141.out 2).trans rfl⟩ (fun hHeld => ?_)
                                  clear hK K
                                  refine norm_ (a' := ?_) ?_ ?_
                                  rotate_left
                                  · show Act.put _ (some 17) _ = _
                                    simp only [Act.put, List.setIfInBounds_toArray, List.set_cons_zero, List.set_cons_succ, i64_w, i32_w]
                                    rfl
                                  refine pure_ (i := 6) (N := some 18) (v := ?_) (a' := ?_) #[true, true, true, true, true, true, true, true, true, false, false, false, false, false, false, false, false, false, false, false, false, true, true, true, false, false, false, false, false, false, false, false, false] rfl rfl (any_of HT_.out (by kernel_rfl)) (fun _ _ _ h => h) (Or.inl ⟨by rfl, ?_⟩) ?_ ?_
                                  rotate_left
                                  · intro w'
                                    go_simp
                                    with_reducible rfl
                                  rotate_left
                                  · simp only [Act.put, List.setIfInBounds_toArray, List.set_cons_zero, List.set_cons_succ, i64_w, i32_w]
                                    rfl
                                  refine one_ (i := 9) (N := some 21) #[true, true, true, true, true, true, true, true, true, true, false, false, false, false, false, false, false, false, false, false, false, true, true, true, false, false, false, false, false, false, false, false, false] rfl rfl (one_of HT_.out (by kernel_rfl)) (by decide) (fun K hK => ?_)
                                  refine goes_ Try.func33 (by kernel_rfl) rfl #[.int .u32 a0_1] (by rfl) rfl rfl (by (try simp only [List.map_toArray, List.map_cons, List.map_nil]); first | done | rfl | (simp only [List.length_drop, List.length_take]; rfl)) ?_
                                  with_reducible refine (ferryref13_w.calls kj3 a0_1 t146 _ A16.out).mono ?_
                                  rintro e w40 ⟨rfl, hb⟩
                                  refine ⟨_, rfl, ?_⟩
                                  have n0_ := Aside0.mk (blk_below (g := gb141) (o := .cells #[.bool a0_0, .int .u32 a0_1, .slice A0_2 l0_2.length c0_2] 26 (0, 0)) (by (with_reducible repeat (first | refine blk_drewN ?_ _ | refine blk_drew ?_ | refine blk_alloc ?_ _)); exact BK141.out) hb)
                                  have n1_ := Aside0.mk (below_step (by repeat (first | (with_reducible first | exact HB.out | apply below_alloc | apply pw_below_drewN | apply below_drew1 | refine below_set ?_ GE141.out) | exact HB.out)) hb)
                                  clear BK141
                                  clear HB
                                  have BK141 := n0_
                                  have HB := n1_
                                  clear n0_ n1_
                                  (try clear hb)
                                  (try clear hb2)
                                  (try clear hk)
                                  (try clear hi)
                                  refine hK.out _ _ ⟨(blk_cell BK141.out 0).trans rfl, (blk_cell BK141.out 1).trans rfl, (blk_cell BK141.out 2).trans rfl⟩ (fun hHeld => ?_)
                                  clear hK K
                                  refine norm_ (a' := ?_) ?_ ?_
                                  rotate_left
                                  · show Act.put _ (some 21) _ = _
                                    simp only [Act.put, List.setIfInBounds_toArray, List.set_cons_zero, List.set_cons_succ, i64_w, i32_w]
                                    rfl
                                  refine pure_ (i := 10) (N := some 22) (v := ?_) (a' := ?_) #[true, true, true, true, true, true, true, true, true, true, true, false, false, false, false, false, false, false, false, false, false, true, true, true, false, false, false, false, false, false, false, false, false] rfl rfl (any_of HT_.out (by kernel_rfl)) (fun _ _ _ h => h) (Or.inl ⟨by rfl, ?_⟩) ?_ ?_
                                  rotate_left
                                  · intro w'
                                    go_simp
                                    with_reducible rfl
                                  rotate_left
                                  · simp only [Act.put, List.setIfInBounds_toArray, List.set_cons_zero, List.set_cons_succ, i64_w, i32_w]
                                    rfl
                                  refine one_ (i := 11) (N := some 23) #[true, true, true, true, true, true, true, true, true, true, true, true, false, false, false, false, false, false, false, false, false, true, true, true, false, false, false, false, false, false, false, false, false] rfl rfl (one_of HT_.out (by kernel_rfl)) (by decide) (fun K hK => ?_)
                                  refine goes_ Try.func33 (by kernel_rfl) rfl #[.int .u32 52] (by rfl) rfl rfl (by (try simp only [List.map_toArray, List.map_cons, List.map_nil]); first | done | rfl | (simp only [List.length_drop, List.length_take]; rfl)) ?_
                                  with_reducible refine (ferryref13_w.calls kj3 52 t147 _ A18.out).mono ?_
                                  rintro e w41 ⟨rfl, hb⟩
                                  refine ⟨_, rfl, ?_⟩
                                  have n0_ := Aside0.mk (blk_below (g := gb141) (o := .cells #[.bool a0_0, .int .u32 a0_1, .slice A0_2 l0_2.length c0_2] 26 (0, 0)) (by (with_reducible repeat (first | refine blk_drewN ?_ _ | refine blk_drew ?_ | refine blk_alloc ?_ _)); exact BK141.out) hb)
                                  have n1_ := Aside0.mk (below_step (by repeat (first | (with_reducible first | exact HB.out | apply below_alloc | apply pw_below_drewN | apply below_drew1 | refine below_set ?_ GE141.out) | exact HB.out)) hb)
                                  clear BK141
                                  clear HB
                                  have BK141 := n0_
                                  have HB := n1_
                                  clear n0_ n1_
                                  (try clear hb)
                                  (try clear hb2)
                                  (try clear hk)
                                  (try clear hi)
                                  refine hK.out _ _ ⟨(blk_cell BK141.out 0).trans rfl, (blk_cell BK141.out 1).trans rfl, (blk_cell BK141.out 2).trans rfl⟩ (fun hHeld => ?_)
                                  clear hK K
                                  refine norm_ (a' := ?_) ?_ ?_
                                  rotate_left
                                  · show Act.put _ (some 23) _ = _
                                    simp only [Act.put, List.setIfInBounds_toArray, List.set_cons_zero, List.set_cons_succ, i64_w, i32_w]
                                    rfl
                                  refine pure_ (i := 12) (N := some 24) (v := ?_) (a' := ?_) #[true, true, true, true, true, true, true, true, true, true, true, true, true, false, false, false, false, false, false, false, false, true, true, true, false, false, false, false, false, false, false, false, false] rfl rfl (any_of HT_.out (by kernel_rfl)) (fun _ _ _ h => h) (Or.inl ⟨by rfl, ?_⟩) ?_ ?_
                                  rotate_left
                                  · intro w'
                                    go_simp
                                    with_reducible rfl
                                  rotate_left
                                  · simp only [Act.put, List.setIfInBounds_toArray, List.set_cons_zero, List.set_cons_succ, i64_w, i32_w]
                                    rfl
                                  refine one_ (i := 13) (N := some 25) #[true, true, true, true, true, true, true, true, true, true, true, true, true, true, false, false, false, false, false, false, false, true, true, true, false, false, false, false, false, false, false, false, false] rfl rfl (one_of HT_.out (by kernel_rfl)) (by decide) (fun K hK => ?_)
                                  refine goes_ Try.func33 (by kernel_rfl) rfl #[.int .u32 0] (by rfl) rfl rfl (by (try simp only [List.map_toArray, List.map_cons, List.map_nil]); first | done | rfl | (simp only [List.length_drop, List.length_take]; rfl)) ?_
                                  with_reducible refine (ferryref13_w.calls kj3 0 t148 _ A20.out).mono ?_
                                  rintro e w42 ⟨rfl, hb⟩
                                  refine ⟨_, rfl, ?_⟩
                                  have n0_ := Aside0.mk (blk_below (g := gb141) (o := .cells #[.bool a0_0, .int .u32 a0_1, .slice A0_2 l0_2.length c0_2] 26 (0, 0)) (by (with_reducible repeat (first | refine blk_drewN ?_ _ | refine blk_drew ?_ | refine blk_alloc ?_ _)); exact BK141.out) hb)
                                  have n1_ := Aside0.mk (below_step (by repeat (first | (with_reducible first | exact HB.out | apply below_alloc | apply pw_below_drewN | apply below_drew1 | refine below_set ?_ GE141.out) | exact HB.out)) hb)
                                  clear BK141
                                  clear HB
                                  have BK141 := n0_
                                  have HB := n1_
                                  clear n0_ n1_
                                  (try clear hb)
                                  (try clear hb2)
                                  (try clear hk)
                                  (try clear hi)
                                  refine hK.out _ _ ⟨(blk_cell BK141.out 0).trans rfl, (blk_cell BK141.out 1).trans rfl, (blk_cell BK141.out 2).trans rfl⟩ (fun hHeld => ?_)
                                  clear hK K
                                  refine norm_ (a' := ?_) ?_ ?_
                                  rotate_left
                                  · show Act.put _ (some 25) _ = _
                                    simp only [Act.put, List.setIfInBounds_toArray, List.set_cons_zero, List.set_cons_succ, i64_w, i32_w]
                                    rfl
                                  refine pure_ (i := 14) (N := some 26) (v := ?_) (a' := ?_) #[true, true, true, true, true, true, true, true, true, true, true, true, true, true, true, false, false, false, false, false, false, true, true, true, false, false, false, false, false, false, false, false, false] rfl rfl (any_of HT_.out (by kernel_rfl)) (fun _ _ _ h => h) (Or.inl ⟨by rfl, ?_⟩) ?_ ?_
                                  rotate_left
                                  · intro w'
                                    go_simp
                                    with_reducible rfl
                                  rotate_left
                                  · simp only [Act.put, List.setIfInBounds_toArray, List.set_cons_zero, List.set_cons_succ, i64_w, i32_w]
                                    rfl
                                  refine one_ (i := 15) (N := some 27) #[true, true, true, true, true, true, true, true, true, true, true, true, true, true, true, true, false, false, false, false, false, true, true, true, false, false, false, false, false, false, false, false, false] rfl rfl (one_of HT_.out (by kernel_rfl)) (by decide) (fun K hK => ?_)
                                  refine goes_ Try.func33 (by kernel_rfl) rfl #[.int .u32 1879052288] (by rfl) rfl rfl (by (try simp only [List.map_toArray, List.map_cons, List.map_nil]); first | done | rfl | (simp only [List.length_drop, List.length_take]; rfl)) ?_
                                  with_reducible refine (ferryref13_w.calls kj3 1879052288 t149 _ A22.out).mono ?_
                                  rintro e w43 ⟨rfl, hb⟩
                                  refine ⟨_, rfl, ?_⟩
                                  have n0_ := Aside0.mk (blk_below (g := gb141) (o := .cells #[.bool a0_0, .int .u32 a0_1, .slice A0_2 l0_2.length c0_2] 26 (0, 0)) (by (with_reducible repeat (first | refine blk_drewN ?_ _ | refine blk_drew ?_ | refine blk_alloc ?_ _)); exact BK141.out) hb)
                                  have n1_ := Aside0.mk (below_step (by repeat (first | (with_reducible first | exact HB.out | apply below_alloc | apply pw_below_drewN | apply below_drew1 | refine below_set ?_ GE141.out) | exact HB.out)) hb)
                                  clear BK141
                                  clear HB
                                  have BK141 := n0_
                                  have HB := n1_
                                  clear n0_ n1_
                                  (try clear hb)
                                  (try clear hb2)
                                  (try clear hk)
                                  (try clear hi)
                                  refine hK.out _ _ ⟨(blk_cell BK141.out 0).trans rfl, (blk_cell BK141.out 1).trans rfl, (blk_cell BK141.out 2).trans rfl⟩ (fun hHeld => ?_)
                                  clear hK K
                                  refine norm_ (a' := ?_) ?_ ?_
                                  rotate_left
                                  · show Act.put _ (some 27) _ = _
                                    simp only [Act.put, List.setIfInBounds_toArray, List.set_cons_zero, List.set_cons_succ, i64_w, i32_w]
                                    rfl
                                  refine pure_ (i := 16) (N := some 28) (v := ?_) (a' := ?_) #[true, true, true, true, true, true, true, true, true, true, true, true, true, true, true, true, true, false, false, false, false, true, true, true, false, false, false, false, false, false, false, false, false] rfl rfl (any_of HT_.out (by kernel_rfl)) (fun _ _ _ h => h) (Or.inl ⟨by rfl, ?_⟩) ?_ ?_
                                  rotate_left
                                  · intro w'
                                    go_simp
                                    with_reducible rfl
                                  rotate_left
                                  · simp only [Act.put, List.setIfInBounds_toArray, List.set_cons_zero, List.set_cons_succ, i64_w, i32_w]
                                    rfl
                                  refine one_ (i := 17) (N := some 29) #[true, true, true, true, true, true, true, true, true, true, true, true, true, true, true, true, true, true, false, false, false, true, true, true, false, false, false, false, false, false, false, false, false] rfl rfl (one_of HT_.out (by kernel_rfl)) (by decide) (fun K hK => ?_)
                                  refine goes_ Try.func32 (by kernel_rfl) rfl #[.int .i64 52] (by rfl) rfl rfl (by (try simp only [List.map_toArray, List.map_cons, List.map_nil]); first | done | rfl | (simp only [List.length_drop, List.length_take]; rfl)) ?_
                                  with_reducible refine (ferryref13_h.calls kj3 52 t150 _ A24.out).mono ?_
                                  rintro e w44 ⟨rfl, hb⟩
                                  refine ⟨_, rfl, ?_⟩
                                  have n0_ := Aside0.mk (blk_below (g := gb141) (o := .cells #[.bool a0_0, .int .u32 a0_1, .slice A0_2 l0_2.length c0_2] 26 (0, 0)) (by (with_reducible repeat (first | refine blk_drewN ?_ _ | refine blk_drew ?_ | refine blk_alloc ?_ _)); exact BK141.out) hb)
                                  have n1_ := Aside0.mk (below_step (by repeat (first | (with_reducible first | exact HB.out | apply below_alloc | apply pw_below_drewN | apply below_drew1 | refine below_set ?_ GE141.out) | exact HB.out)) hb)
                                  clear BK141
                                  clear HB
                                  have BK141 := n0_
                                  have HB := n1_
                                  clear n0_ n1_
                                  (try clear hb)
                                  (try clear hb2)
                                  (try clear hk)
                                  (try clear hi)
                                  refine hK.out _ _ ⟨(blk_cell BK141.out 0).trans rfl, (blk_cell BK141.out 1).trans rfl, (blk_cell BK141.out 2).trans rfl⟩ (fun hHeld => ?_)
                                  clear hK K
                                  refine norm_ (a' := ?_) ?_ ?_
                                  rotate_left
                                  · show Act.put _ (some 29) _ = _
                                    simp only [Act.put, List.setIfInBounds_toArray, List.set_cons_zero, List.set_cons_succ, i64_w, i32_w]
                                    rfl
                                  refine pure_ (i := 18) (N := some 30) (v := ?_) (a' := ?_) #[true, true, true, true, true, true, true, true, true, true, true, true, true, true, true, true, true, true, true, false, false, true, true, true, false, false, false, false, false, false, false, false, false] rfl rfl (any_of HT_.out (by kernel_rfl)) (fun _ _ _ h => h) (Or.inl ⟨by rfl, ?_⟩) ?_ ?_
                                  rotate_left
                                  · intro w'
                                    go_simp
                                    with_reducible rfl
                                  rotate_left
                                  · simp only [Act.put, List.setIfInBounds_toArray, List.set_cons_zero, List.set_cons_succ, i64_w, i32_w]
                                    rfl
                                  refine one_ (i := 19) (N := some 31) #[true, true, true, true, true, true, true, true, true, true, true, true, true, true, true, true, true, true, true, true, false, true, true, true, false, false, false, false, false, false, false, false, false] rfl rfl (one_of HT_.out (by kernel_rfl)) (by decide) (fun K hK => ?_)
                                  refine goes_ Try.func32 (by kernel_rfl) rfl #[.int .i64 32] (by rfl) rfl rfl (by (try simp only [List.map_toArray, List.map_cons, List.map_nil]); first | done | rfl | (simp only [List.length_drop, List.length_take]; rfl)) ?_
                                  with_reducible refine (ferryref13_h.calls kj3 32 t151 _ A26.out).mono ?_
                                  rintro e w45 ⟨rfl, hb⟩
                                  refine ⟨_, rfl, ?_⟩
                                  have n0_ := Aside0.mk (blk_below (g := gb141) (o := .cells #[.bool a0_0, .int .u32 a0_1, .slice A0_2 l0_2.length c0_2] 26 (0, 0)) (by (with_reducible repeat (first | refine blk_drewN ?_ _ | refine blk_drew ?_ | refine blk_alloc ?_ _)); exact BK141.out) hb)
                                  have n1_ := Aside0.mk (below_step (by repeat (first | (with_reducible first | exact HB.out | apply below_alloc | apply pw_below_drewN | apply below_drew1 | refine below_set ?_ GE141.out) | exact HB.out)) hb)
                                  clear BK141
                                  clear HB
                                  have BK141 := n0_
                                  have HB := n1_
                                  clear n0_ n1_
                                  (try clear hb)
                                  (try clear hb2)
                                  (try clear hk)
                                  (try clear hi)
                                  refine hK.out _ _ ⟨(blk_cell BK141.out 0).trans rfl, (blk_cell BK141.out 1).trans rfl, (blk_cell BK141.out 2).trans rfl⟩ (fun hHeld => ?_)
                                  clear hK K
                                  refine norm_ (a' := ?_) ?_ ?_
                                  rotate_left
                                  · show Act.put _ (some 31) _ = _
                                    simp only [Act.put, List.setIfInBounds_toArray, List.set_cons_zero, List.set_cons_succ, i64_w, i32_w]
                                    rfl
                                  refine pure_ (i := 20) (N := some 32) (v := ?_) (a' := ?_) #[true, true, true, true, true, true, true, true, true, true, true, true, true, true, true, true, true, true, true, true, true, true, true, true, false, false, false, false, false, false, false, false, false] rfl rfl (any_of HT_.out (by kernel_rfl)) (fun _ _ _ h => h) (Or.inl ⟨by rfl, ?_⟩) ?_ ?_
                                  rotate_left
                                  · intro w'
                                    go_simp
                                    with_reducible rfl
                                  rotate_left
                                  · simp only [Act.put, List.setIfInBounds_toArray, List.set_cons_zero, List.set_cons_succ, i64_w, i32_w]
                                    rfl
                                  refine one_ (i := 24) (N := some 36) #[true, true, true, true, true, true, true, true, true, true, true, true, true, true, true, true, true, true, true, true, true, true, true, true, true, false, false, false, false, false, false, false, false] rfl rfl (one_of HT_.out (by kernel_rfl)) (by decide) (fun K hK => ?_)
                                  refine goes_ Try.func32 (by kernel_rfl) rfl #[.int .i64 (l0_2.length : Int)] (by rfl) rfl rfl (by (try simp only [List.map_toArray, List.map_cons, List.map_nil]); first | done | rfl | (simp only [List.length_drop, List.length_take]; rfl)) ?_
                                  with_reducible refine (ferryref13_h.calls kj3 (l0_2.length : Int) t152 _ A28.out).mono ?_
                                  rintro e w46 ⟨rfl, hb⟩
                                  refine ⟨_, rfl, ?_⟩
                                  have n0_ := Aside0.mk (blk_below (g := gb141) (o := .cells #[.bool a0_0, .int .u32 a0_1, .slice A0_2 l0_2.length c0_2] 26 (0, 0)) (by (with_reducible repeat (first | refine blk_drewN ?_ _ | refine blk_drew ?_ | refine blk_alloc ?_ _)); exact BK141.out) hb)
                                  have n1_ := Aside0.mk (below_step (by repeat (first | (with_reducible first | exact HB.out | apply below_alloc | apply pw_below_drewN | apply below_drew1 | refine below_set ?_ GE141.out) | exact HB.out)) hb)
                                  clear BK141
                                  clear HB
                                  have BK141 := n0_
                                  have HB := n1_
                                  clear n0_ n1_
                                  (try clear hb)
                                  (try clear hb2)
                                  (try clear hk)
                                  (try clear hi)
                                  refine hK.out _ _ ⟨(blk_cell BK141.out 0).trans rfl, (blk_cell BK141.out 1).trans rfl, (blk_cell BK141.out 2).trans rfl⟩ (fun hHeld => ?_)
                                  clear hK K
                                  refine norm_ (a' := ?_) ?_ ?_
                                  rotate_left
                                  · show Act.put _ (some 36) _ = _
                                    simp only [Act.put, List.setIfInBounds_toArray, List.set_cons_zero, List.set_cons_succ, i64_w, i32_w]
                                    rfl
                                  refine pure_ (i := 25) (N := some 37) (v := ?_) (a' := ?_) #[true, true, true, true, true, true, true, true, true, true, true, true, true, true, true, true, true, true, true, true, true, true, true, true, true, true, false, false, false, false, false, false, false] rfl rfl (any_of HT_.out (by kernel_rfl)) (fun _ _ _ h => h) (Or.inl ⟨by rfl, ?_⟩) ?_ ?_
                                  rotate_left
                                  · intro w'
                                    go_simp
                                    with_reducible rfl
                                  rotate_left
                                  · simp only [Act.put, List.setIfInBounds_toArray, List.set_cons_zero, List.set_cons_succ, i64_w, i32_w]
                                    rfl
                                  refine one_ (i := 26) (N := some 38) #[true, true, true, true, true, true, true, true, true, true, true, true, true, true, true, true, true, true, true, true, true, true, true, true, true, true, true, false, false, false, false, false, false] rfl rfl (one_of HT_.out (by kernel_rfl)) (by decide) (fun K hK => ?_)
                                  refine goes_ Try.func32 (by kernel_rfl) rfl #[.int .i64 0] (by rfl) rfl rfl (by (try simp only [List.map_toArray, List.map_cons, List.map_nil]); first | done | rfl | (simp only [List.length_drop, List.length_take]; rfl)) ?_
                                  with_reducible refine (ferryref13_h.calls kj3 0 t153 _ A30.out).mono ?_
                                  rintro e w47 ⟨rfl, hb⟩
                                  refine ⟨_, rfl, ?_⟩
                                  have n0_ := Aside0.mk (blk_below (g := gb141) (o := .cells #[.bool a0_0, .int .u32 a0_1, .slice A0_2 l0_2.length c0_2] 26 (0, 0)) (by (with_reducible repeat (first | refine blk_drewN ?_ _ | refine blk_drew ?_ | refine blk_alloc ?_ _)); exact BK141.out) hb)
                                  have n1_ := Aside0.mk (below_step (by repeat (first | (with_reducible first | exact HB.out | apply below_alloc | apply pw_below_drewN | apply below_drew1 | refine below_set ?_ GE141.out) | exact HB.out)) hb)
                                  clear BK141
                                  clear HB
                                  have BK141 := n0_
                                  have HB := n1_
                                  clear n0_ n1_
                                  (try clear hb)
                                  (try clear hb2)
                                  (try clear hk)
                                  (try clear hi)
                                  refine hK.out _ _ ⟨(blk_cell BK141.out 0).trans rfl, (blk_cell BK141.out 1).trans rfl, (blk_cell BK141.out 2).trans rfl⟩ (fun hHeld => ?_)
                                  clear hK K
                                  refine norm_ (a' := ?_) ?_ ?_
                                  rotate_left
                                  · show Act.put _ (some 38) _ = _
                                    simp only [Act.put, List.setIfInBounds_toArray, List.set_cons_zero, List.set_cons_succ, i64_w, i32_w]
                                    rfl
                                  refine pure_ (i := 27) (N := some 39) (v := ?_) (a' := ?_) #[true, true, true, true, true, true, true, true, true, true, true, true, true, true, true, true, true, true, true, true, true, true, true, true, true, true, true, true, false, false, false, false, false] rfl rfl (any_of HT_.out (by kernel_rfl)) (fun _ _ _ h => h) (Or.inl ⟨by rfl, ?_⟩) ?_ ?_
                                  rotate_left
                                  · intro w'
                                    go_simp
                                    with_reducible rfl
                                  rotate_left
                                  · simp only [Act.put, List.setIfInBounds_toArray, List.set_cons_zero, List.set_cons_succ, i64_w, i32_w]
                                    rfl
                                  refine one_ (i := 28) (N := some 40) #[true, true, true, true, true, true, true, true, true, true, true, true, true, true, true, true, true, true, true, true, true, true, true, true, true, true, true, true, true, false, false, false, false] rfl rfl (one_of HT_.out (by kernel_rfl)) (by decide) (fun K hK => ?_)
                                  refine goes_ Try.func32 (by kernel_rfl) rfl #[.int .i64 0] (by rfl) rfl rfl (by (try simp only [List.map_toArray, List.map_cons, List.map_nil]); first | done | rfl | (simp only [List.length_drop, List.length_take]; rfl)) ?_
                                  with_reducible refine (ferryref13_h.calls kj3 0 t154 _ A32.out).mono ?_
                                  rintro e w48 ⟨rfl, hb⟩
                                  refine ⟨_, rfl, ?_⟩
                                  have n0_ := Aside0.mk (blk_below (g := gb141) (o := .cells #[.bool a0_0, .int .u32 a0_1, .slice A0_2 l0_2.length c0_2] 26 (0, 0)) (by (with_reducible repeat (first | refine blk_drewN ?_ _ | refine blk_drew ?_ | refine blk_alloc ?_ _)); exact BK141.out) hb)
                                  have n1_ := Aside0.mk (below_step (by repeat (first | (with_reducible first | exact HB.out | apply below_alloc | apply pw_below_drewN | apply below_drew1 | refine below_set ?_ GE141.out) | exact HB.out)) hb)
                                  clear BK141
                                  clear HB
                                  have BK141 := n0_
                                  have HB := n1_
                                  clear n0_ n1_
                                  (try clear hb)
                                  (try clear hb2)
                                  (try clear hk)
                                  (try clear hi)
                                  refine hK.out _ _ ⟨(blk_cell BK141.out 0).trans rfl, (blk_cell BK141.out 1).trans rfl, (blk_cell BK141.out 2).trans rfl⟩ (fun hHeld => ?_)
                                  clear hK K
                                  refine norm_ (a' := ?_) ?_ ?_
                                  rotate_left
                                  · show Act.put _ (some 40) _ = _
                                    simp only [Act.put, List.setIfInBounds_toArray, List.set_cons_zero, List.set_cons_succ, i64_w, i32_w]
                                    rfl
                                  refine pure_ (i := 29) (N := some 41) (v := ?_) (a' := ?_) #[true, true, true, true, true, true, true, true, true, true, true, true, true, true, true, true, true, true, true, true, true, true, true, true, true, true, true, true, true, true, false, false, false] rfl rfl (any_of HT_.out (by kernel_rfl)) (fun _ _ _ h => h) (Or.inl ⟨by rfl, ?_⟩) ?_ ?_
                                  rotate_left
                                  · intro w'
                                    go_simp
                                    with_reducible rfl
                                  rotate_left
                                  · simp only [Act.put, List.setIfInBounds_toArray, List.set_cons_zero, List.set_cons_succ, i64_w, i32_w]
                                    rfl
                                  refine one_ (i := 30) (N := some 42) #[true, true, true, true, true, true, true, true, true, true, true, true, true, true, true, true, true, true, true, true, true, true, true, true, true, true, true, true, true, true, true, false, false] rfl rfl (one_of HT_.out (by kernel_rfl)) (by decide) (fun K hK => ?_)
                                  refine goes_ Try.func32 (by kernel_rfl) rfl #[.int .i64 0] (by rfl) rfl rfl (by (try simp only [List.map_toArray, List.map_cons, List.map_nil]); first | done | rfl | (simp only [List.length_drop, List.length_take]; rfl)) ?_
                                  with_reducible refine (ferryref13_h.calls kj3 0 t155 _ A34.out).mono ?_
                                  rintro e w49 ⟨rfl, hb⟩
                                  refine ⟨_, rfl, ?_⟩
                                  have n0_ := Aside0.mk (blk_below (g := gb141) (o := .cells #[.bool a0_0, .int .u32 a0_1, .slice A0_2 l0_2.length c0_2] 26 (0, 0)) (by (with_reducible repeat (first | refine blk_drewN ?_ _ | refine blk_drew ?_ | refine blk_alloc ?_ _)); exact BK141.out) hb)
                                  have n1_ := Aside0.mk (below_step (by repeat (first | (with_reducible first | exact HB.out | apply below_alloc | apply pw_below_drewN | apply below_drew1 | refine below_set ?_ GE141.out) | exact HB.out)) hb)
                                  clear BK141
                                  clear HB
                                  have BK141 := n0_
                                  have HB := n1_
                                  clear n0_ n1_
                                  (try clear hb)
                                  (try clear hb2)
                                  (try clear hk)
                                  (try clear hi)
                                  refine hK.out _ _ ⟨(blk_cell BK141.out 0).trans rfl, (blk_cell BK141.out 1).trans rfl, (blk_cell BK141.out 2).trans rfl⟩ (fun hHeld => ?_)
                                  clear hK K
                                  refine norm_ (a' := ?_) ?_ ?_
                                  rotate_left
                                  · show Act.put _ (some 42) _ = _
                                    simp only [Act.put, List.setIfInBounds_toArray, List.set_cons_zero, List.set_cons_succ, i64_w, i32_w]
                                    rfl
                                  refine pure_ (i := 31) (N := some 43) (v := ?_) (a' := ?_) #[true, true, true, true, true, true, true, true, true, true, true, true, true, true, true, true, true, true, true, true, true, true, true, true, true, true, true, true, true, true, true, true, false] rfl rfl (any_of HT_.out (by kernel_rfl)) (fun _ _ _ h => h) (Or.inl ⟨by rfl, ?_⟩) ?_ ?_
                                  rotate_left
                                  · intro w'
                                    go_simp
                                    with_reducible rfl
                                  rotate_left
                                  · simp only [Act.put, List.setIfInBounds_toArray, List.set_cons_zero, List.set_cons_succ, i64_w, i32_w]
                                    rfl
                                  refine pure_ (i := 32) (N := some 4) (v := ?_) (a' := ?_) #[true, true, true, true, true, true, true, true, true, true, true, true, true, true, true, true, true, true, true, true, true, true, true, true, true, true, true, true, true, true, true, true, true] rfl rfl (any_of HT_.out (by kernel_rfl)) (fun _ _ _ h => h) (Or.inl ⟨by rfl, ?_⟩) ?_ ?_
                                  rotate_left
                                  · intro w'
                                    go_simp
                                    with_reducible rfl
                                  rotate_left
                                  · simp only [Act.put, List.setIfInBounds_toArray, List.set_cons_zero, List.set_cons_succ, i64_w, i32_w]
                                    rfl
                                  refine done_ (done_of HT_.out (by kernel_rfl)) ?_
                                  try go_wp2
                                  go_loopg [4, 5] kj3 (fun kq v4 v5 w' => ∃ (x4_2 : ByteArray) (x5_2 : Int), v4 = .string x4_2 ∧ v5 = .int .i64 x5_2 ∧ Aside0 (ferryref13_Write.l0 kq x4_2 x5_2 a0_0 a0_1 l0_2 = some r) ∧ Aside0 (kq ≤ kj3) ∧ Aside0 (w'.heap[gb141]? = some (.cells #[.bool a0_0, .int .u32 a0_1, (.slice A0_2 l0_2.length c0_2)] 26 (0, 0))) ∧ Aside0 (Below w.heap.size w w'))
                                  case atStart => exact ⟨((((((((((((((⟨#[127, 69, 76, 70, 1, 2, 1, 0, 0, 0, 0, 0, 0, 0, 0, 0]⟩ : ByteArray) ++ t143) ++ t144) ++ t145) ++ t146) ++ t147) ++ t148) ++ t149) ++ t150) ++ t151) ++ t152) ++ t153) ++ t154) ++ t155), (0), (by first | rfl | (simp; done) | (simp [*]; done)), (by first | rfl | (simp; done) | (simp [*]; done)), H', ⟨Nat.le_refl _⟩, ⟨by (with_reducible repeat (first | refine blk_drewN ?_ _ | refine blk_drew ?_ | refine blk_alloc ?_ _)); exact BK141.out⟩, ⟨by repeat (first | (with_reducible first | exact HB.out | apply below_alloc | apply pw_below_drewN | apply below_drew1 | refine below_set ?_ GE141.out) | exact HB.out)⟩⟩
                                  case round =>
                                    clear H'
                                    try clear c1
                                    try clear c2
                                    try clear p2
                                    try clear c3
                                    try clear c11
                                    try clear c11b0
                                    try clear c11b1
                                    try clear c11b2
                                    try clear c13
                                    try clear c13b0
                                    try clear c13b1
                                    try clear c13b2
                                    try clear c15
                                    try clear c15b0
                                    try clear c15b1
                                    try clear c15b2
                                    try clear c17
                                    try clear c17b0
                                    try clear c17b1
                                    try clear c17b2
                                    try clear c19
                                    try clear c19b0
                                    try clear c19b1
                                    try clear c19b2
                                    try clear c21
                                    try clear c21b0
                                    try clear c21b1
                                    try clear c21b2
                                    try clear c23
                                    try clear c23b0
                                    try clear c23b1
                                    try clear c23b2
                                    try clear c25
                                    try clear c25b0
                                    try clear c25b1
                                    try clear c25b2
                                    try clear c27
                                    try clear c27b0
                                    try clear c27b1
                                    try clear c27b2
                                    try clear c29
                                    try clear c29b0
                                    try clear c29b1
                                    try clear c29b2
                                    try clear c31
                                    try clear c31b0
                                    try clear c31b1
                                    try clear c31b2
                                    try clear c32
                                    try clear c33
                                    try clear c33b0
                                    try clear c33b1
                                    try clear c33b2
                                    try clear c35
                                    try clear c35b0
                                    try clear c35b1
                                    try clear c35b2
                                    obtain ⟨x4_2, x5_2, rfl, rfl, HA, HK2, BK141, HB⟩ := hrel
                                    cases gk with
                                    | zero => exact absurd HA.out (by simp [ferryref13_Write.l0])
                                    | succ k2 =>
                                      have H := HA.out
                                      clear HA
                                      simp only [ferryref13_Write.l0] at H
                                      by_cases c50 : x5_2 < (l0_2.length : Int)
                                      · rw [if_pos c50] at H
                                        have c50b0 : decide (x5_2 < (l0_2.length : Int)) = true := decide_eq_true c50
                                        clear c50
                                        by_cases c51 : 0 ≤ x5_2
                                        · rw [if_pos c51] at H
                                          have c51b0 : decide (0 ≤ x5_2) = true := decide_eq_true c51
                                          clear c51
                                          replace H := Option.bind_eq_some_iff.mp H
                                          obtain ⟨t158, A520, H⟩ := H
                                          replace H : (if x4_2.size + t158.size ≤ 9223372036854775807 then ((ferryref13_w.f k2 ((rd_T39 l0_2 x5_2).f1)).bind fun t159 => (if (x4_2 ++ t158).size + t159.size ≤ 9223372036854775807 then ((ferryref13_w.f k2 ((rd_T39 l0_2 x5_2).f2)).bind fun t160 => (if ((x4_2 ++ t158) ++ t159).size + t160.size ≤ 9223372036854775807 then ((ferryref13_w.f k2 ((rd_T39 l0_2 x5_2).f2)).bind fun t161 => (if (((x4_2 ++ t158) ++ t159) ++ t160).size + t161.size ≤ 9223372036854775807 then ((ferryref13_w.f k2 ((rd_T39 l0_2 x5_2).f3)).bind fun t162 => (if ((((x4_2 ++ t158) ++ t159) ++ t160) ++ t161).size + t162.size ≤ 9223372036854775807 then ((ferryref13_w.f k2 ((rd_T39 l0_2 x5_2).f4)).bind fun t163 => (if (((((x4_2 ++ t158) ++ t159) ++ t160) ++ t161) ++ t162).size + t163.size ≤ 9223372036854775807 then ((ferryref13_flagsOf.f k2 ((rd_T39 l0_2 x5_2).f5)).bind fun t164 => ((ferryref13_w.f k2 t164).bind fun t165 => (if ((((((x4_2 ++ t158) ++ t159) ++ t160) ++ t161) ++ t162) ++ t163).size + t165.size ≤ 9223372036854775807 then ((ferryref13_w.f k2 ((rd_T39 l0_2 x5_2).f6)).bind fun t166 => (if (((((((x4_2 ++ t158) ++ t159) ++ t160) ++ t161) ++ t162) ++ t163) ++ t165).size + t166.size ≤ 9223372036854775807 then (ferryref13_Write.l0 k2 ((((((((x4_2 ++ t158) ++ t159) ++ t160) ++ t161) ++ t162) ++ t163) ++ t165) ++ t166) (wrap64 (x5_2 + 1)) a0_0 a0_1 l0_2) else (none))) else (none)))) else (none))) else (none))) else (none))) else (none))) else (none))) else (none)) = some r := H
                                          have A52 := Aside0.mk A520
                                          clear A520
                                          by_cases c53 : x4_2.size + t158.size ≤ 9223372036854775807
                                          · rw [if_pos c53] at H
                                            have c53b0 := eq_true c53
                                            have c53b1 : decide (x4_2.size + t158.size ≤ 9223372036854775807) = true := decide_eq_true c53
                                            try have c53b2 : (9223372036854775807 < x4_2.size + t158.size) = False := eq_false (Nat.not_lt.2 c53)
                                            replace H := Option.bind_eq_some_iff.mp H
                                            obtain ⟨t159, A540, H⟩ := H
                                            replace H : (if (x4_2 ++ t158).size + t159.size ≤ 9223372036854775807 then ((ferryref13_w.f k2 ((rd_T39 l0_2 x5_2).f2)).bind fun t160 => (if ((x4_2 ++ t158) ++ t159).size + t160.size ≤ 9223372036854775807 then ((ferryref13_w.f k2 ((rd_T39 l0_2 x5_2).f2)).bind fun t161 => (if (((x4_2 ++ t158) ++ t159) ++ t160).size + t161.size ≤ 9223372036854775807 then ((ferryref13_w.f k2 ((rd_T39 l0_2 x5_2).f3)).bind fun t162 => (if ((((x4_2 ++ t158) ++ t159) ++ t160) ++ t161).size + t162.size ≤ 9223372036854775807 then ((ferryref13_w.f k2 ((rd_T39 l0_2 x5_2).f4)).bind fun t163 => (if (((((x4_2 ++ t158) ++ t159) ++ t160) ++ t161) ++ t162).size + t163.size ≤ 9223372036854775807 then ((ferryref13_flagsOf.f k2 ((rd_T39 l0_2 x5_2).f5)).bind fun t164 => ((ferryref13_w.f k2 t164).bind fun t165 => (if ((((((x4_2 ++ t158) ++ t159) ++ t160) ++ t161) ++ t162) ++ t163).size + t165.size ≤ 9223372036854775807 then ((ferryref13_w.f k2 ((rd_T39 l0_2 x5_2).f6)).bind fun t166 => (if (((((((x4_2 ++ t158) ++ t159) ++ t160) ++ t161) ++ t162) ++ t163) ++ t165).size + t166.size ≤ 9223372036854775807 then (ferryref13_Write.l0 k2 ((((((((x4_2 ++ t158) ++ t159) ++ t160) ++ t161) ++ t162) ++ t163) ++ t165) ++ t166) (wrap64 (x5_2 + 1)) a0_0 a0_1 l0_2) else (none))) else (none)))) else (none))) else (none))) else (none))) else (none))) else (none)) = some r := H
                                            have A54 := Aside0.mk A540
                                            clear A540
                                            by_cases c55 : (x4_2 ++ t158).size + t159.size ≤ 9223372036854775807
                                            · rw [if_pos c55] at H
                                              have c55b0 := eq_true c55
                                              have c55b1 : decide ((x4_2 ++ t158).size + t159.size ≤ 9223372036854775807) = true := decide_eq_true c55
                                              try have c55b2 : (9223372036854775807 < (x4_2 ++ t158).size + t159.size) = False := eq_false (Nat.not_lt.2 c55)
                                              (try (have c55b3 := c55b2; simp only [ByteArray.size_append] at c55b3))
                                              replace H := Option.bind_eq_some_iff.mp H
                                              obtain ⟨t160, A560, H⟩ := H
                                              replace H : (if ((x4_2 ++ t158) ++ t159).size + t160.size ≤ 9223372036854775807 then ((ferryref13_w.f k2 ((rd_T39 l0_2 x5_2).f2)).bind fun t161 => (if (((x4_2 ++ t158) ++ t159) ++ t160).size + t161.size ≤ 9223372036854775807 then ((ferryref13_w.f k2 ((rd_T39 l0_2 x5_2).f3)).bind fun t162 => (if ((((x4_2 ++ t158) ++ t159) ++ t160) ++ t161).size + t162.size ≤ 9223372036854775807 then ((ferryref13_w.f k2 ((rd_T39 l0_2 x5_2).f4)).bind fun t163 => (if (((((x4_2 ++ t158) ++ t159) ++ t160) ++ t161) ++ t162).size + t163.size ≤ 9223372036854775807 then ((ferryref13_flagsOf.f k2 ((rd_T39 l0_2 x5_2).f5)).bind fun t164 => ((ferryref13_w.f k2 t164).bind fun t165 => (if ((((((x4_2 ++ t158) ++ t159) ++ t160) ++ t161) ++ t162) ++ t163).size + t165.size ≤ 9223372036854775807 then ((ferryref13_w.f k2 ((rd_T39 l0_2 x5_2).f6)).bind fun t166 => (if (((((((x4_2 ++ t158) ++ t159) ++ t160) ++ t161) ++ t162) ++ t163) ++ t165).size + t166.size ≤ 9223372036854775807 then (ferryref13_Write.l0 k2 ((((((((x4_2 ++ t158) ++ t159) ++ t160) ++ t161) ++ t162) ++ t163) ++ t165) ++ t166) (wrap64 (x5_2 + 1)) a0_0 a0_1 l0_2) else (none))) else (none)))) else (none))) else (none))) else (none))) else (none)) = some r := H
                                              have A56 := Aside0.mk A560
                                              clear A560
                                              by_cases c57 : ((x4_2 ++ t158) ++ t159).size + t160.size ≤ 9223372036854775807
                                              · rw [if_pos c57] at H
                                                have c57b0 := eq_true c57
                                                have c57b1 : decide (((x4_2 ++ t158) ++ t159).size + t160.size ≤ 9223372036854775807) = true := decide_eq_true c57
                                                try have c57b2 : (9223372036854775807 < ((x4_2 ++ t158) ++ t159).size + t160.size) = False := eq_false (Nat.not_lt.2 c57)
                                                (try (have c57b3 := c57b2; simp only [ByteArray.size_append] at c57b3))
                                                replace H := Option.bind_eq_some_iff.mp H
                                                obtain ⟨t161, A580, H⟩ := H
                                                replace H : (if (((x4_2 ++ t158) ++ t159) ++ t160).size + t161.size ≤ 9223372036854775807 then ((ferryref13_w.f k2 ((rd_T39 l0_2 x5_2).f3)).bind fun t162 => (if ((((x4_2 ++ t158) ++ t159) ++ t160) ++ t161).size + t162.size ≤ 9223372036854775807 then ((ferryref13_w.f k2 ((rd_T39 l0_2 x5_2).f4)).bind fun t163 => (if (((((x4_2 ++ t158) ++ t159) ++ t160) ++ t161) ++ t162).size + t163.size ≤ 9223372036854775807 then ((ferryref13_flagsOf.f k2 ((rd_T39 l0_2 x5_2).f5)).bind fun t164 => ((ferryref13_w.f k2 t164).bind fun t165 => (if ((((((x4_2 ++ t158) ++ t159) ++ t160) ++ t161) ++ t162) ++ t163).size + t165.size ≤ 9223372036854775807 then ((ferryref13_w.f k2 ((rd_T39 l0_2 x5_2).f6)).bind fun t166 => (if (((((((x4_2 ++ t158) ++ t159) ++ t160) ++ t161) ++ t162) ++ t163) ++ t165).size + t166.size ≤ 9223372036854775807 then (ferryref13_Write.l0 k2 ((((((((x4_2 ++ t158) ++ t159) ++ t160) ++ t161) ++ t162) ++ t163) ++ t165) ++ t166) (wrap64 (x5_2 + 1)) a0_0 a0_1 l0_2) else (none))) else (none)))) else (none))) else (none))) else (none)) = some r := H
                                                have A58 := Aside0.mk A580
                                                clear A580
                                                by_cases c59 : (((x4_2 ++ t158) ++ t159) ++ t160).size + t161.size ≤ 9223372036854775807
                                                · rw [if_pos c59] at H
                                                  have c59b0 := eq_true c59
                                                  have c59b1 : decide ((((x4_2 ++ t158) ++ t159) ++ t160).size + t161.size ≤ 9223372036854775807) = true := decide_eq_true c59
                                                  try have c59b2 : (9223372036854775807 < (((x4_2 ++ t158) ++ t159) ++ t160).size + t161.size) = False := eq_false (Nat.not_lt.2 c59)
                                                  (try (have c59b3 := c59b2; simp only [ByteArray.size_append] at c59b3))
                                                  replace H := Option.bind_eq_some_iff.mp H
                                                  obtain ⟨t162, A600, H⟩ := H
                                                  replace H : (if ((((x4_2 ++ t158) ++ t159) ++ t160) ++ t161).size + t162.size ≤ 9223372036854775807 then ((ferryref13_w.f k2 ((rd_T39 l0_2 x5_2).f4)).bind fun t163 => (if (((((x4_2 ++ t158) ++ t159) ++ t160) ++ t161) ++ t162).size + t163.size ≤ 9223372036854775807 then ((ferryref13_flagsOf.f k2 ((rd_T39 l0_2 x5_2).f5)).bind fun t164 => ((ferryref13_w.f k2 t164).bind fun t165 => (if ((((((x4_2 ++ t158) ++ t159) ++ t160) ++ t161) ++ t162) ++ t163).size + t165.size ≤ 9223372036854775807 then ((ferryref13_w.f k2 ((rd_T39 l0_2 x5_2).f6)).bind fun t166 => (if (((((((x4_2 ++ t158) ++ t159) ++ t160) ++ t161) ++ t162) ++ t163) ++ t165).size + t166.size ≤ 9223372036854775807 then (ferryref13_Write.l0 k2 ((((((((x4_2 ++ t158) ++ t159) ++ t160) ++ t161) ++ t162) ++ t163) ++ t165) ++ t166) (wrap64 (x5_2 + 1)) a0_0 a0_1 l0_2) else (none))) else (none)))) else (none))) else (none)) = some r := H
                                                  have A60 := Aside0.mk A600
                                                  clear A600
                                                  by_cases c61 : ((((x4_2 ++ t158) ++ t159) ++ t160) ++ t161).size + t162.size ≤ 9223372036854775807
                                                  · rw [if_pos c61] at H
                                                    have c61b0 := eq_true c61
                                                    have c61b1 : decide (((((x4_2 ++ t158) ++ t159) ++ t160) ++ t161).size + t162.size ≤ 9223372036854775807) = true := decide_eq_true c61
                                                    try have c61b2 : (9223372036854775807 < ((((x4_2 ++ t158) ++ t159) ++ t160) ++ t161).size + t162.size) = False := eq_false (Nat.not_lt.2 c61)
                                                    (try (have c61b3 := c61b2; simp only [ByteArray.size_append] at c61b3))
                                                    replace H := Option.bind_eq_some_iff.mp H
                                                    obtain ⟨t163, A620, H⟩ := H
                                                    replace H : (if (((((x4_2 ++ t158) ++ t159) ++ t160) ++ t161) ++ t162).size + t163.size ≤ 9223372036854775807 then ((ferryref13_flagsOf.f k2 ((rd_T39 l0_2 x5_2).f5)).bind fun t164 => ((ferryref13_w.f k2 t164).bind fun t165 => (if ((((((x4_2 ++ t158) ++ t159) ++ t160) ++ t161) ++ t162) ++ t163).size + t165.size ≤ 9223372036854775807 then ((ferryref13_w.f k2 ((rd_T39 l0_2 x5_2).f6)).bind fun t166 => (if (((((((x4_2 ++ t158) ++ t159) ++ t160) ++ t161) ++ t162) ++ t163) ++ t165).size + t166.size ≤ 9223372036854775807 then (ferryref13_Write.l0 k2 ((((((((x4_2 ++ t158) ++ t159) ++ t160) ++ t161) ++ t162) ++ t163) ++ t165) ++ t166) (wrap64 (x5_2 + 1)) a0_0 a0_1 l0_2) else (none))) else (none)))) else (none)) = some r := H
                                                    have A62 := Aside0.mk A620
                                                    clear A620
                                                    by_cases c63 : (((((x4_2 ++ t158) ++ t159) ++ t160) ++ t161) ++ t162).size + t163.size ≤ 9223372036854775807
                                                    · rw [if_pos c63] at H
                                                      have c63b0 := eq_true c63
                                                      have c63b1 : decide ((((((x4_2 ++ t158) ++ t159) ++ t160) ++ t161) ++ t162).size + t163.size ≤ 9223372036854775807) = true := decide_eq_true c63
                                                      try have c63b2 : (9223372036854775807 < (((((x4_2 ++ t158) ++ t159) ++ t160) ++ t161) ++ t162).size + t163.size) = False := eq_false (Nat.not_lt.2 c63)
                                                      (try (have c63b3 := c63b2; simp only [ByteArray.size_append] at c63b3))
                                                      replace H := Option.bind_eq_some_iff.mp H
                                                      obtain ⟨t164, A640, H⟩ := H
                                                      replace H : ((ferryref13_w.f k2 t164).bind fun t165 => (if ((((((x4_2 ++ t158) ++ t159) ++ t160) ++ t161) ++ t162) ++ t163).size + t165.size ≤ 9223372036854775807 then ((ferryref13_w.f k2 ((rd_T39 l0_2 x5_2).f6)).bind fun t166 => (if (((((((x4_2 ++ t158) ++ t159) ++ t160) ++ t161) ++ t162) ++ t163) ++ t165).size + t166.size ≤ 9223372036854775807 then (ferryref13_Write.l0 k2 ((((((((x4_2 ++ t158) ++ t159) ++ t160) ++ t161) ++ t162) ++ t163) ++ t165) ++ t166) (wrap64 (x5_2 + 1)) a0_0 a0_1 l0_2) else (none))) else (none))) = some r := H
                                                      have A64 := Aside0.mk A640
                                                      clear A640
                                                      replace H := Option.bind_eq_some_iff.mp H
                                                      obtain ⟨t165, A650, H⟩ := H
                                                      replace H : (if ((((((x4_2 ++ t158) ++ t159) ++ t160) ++ t161) ++ t162) ++ t163).size + t165.size ≤ 9223372036854775807 then ((ferryref13_w.f k2 ((rd_T39 l0_2 x5_2).f6)).bind fun t166 => (if (((((((x4_2 ++ t158) ++ t159) ++ t160) ++ t161) ++ t162) ++ t163) ++ t165).size + t166.size ≤ 9223372036854775807 then (ferryref13_Write.l0 k2 ((((((((x4_2 ++ t158) ++ t159) ++ t160) ++ t161) ++ t162) ++ t163) ++ t165) ++ t166) (wrap64 (x5_2 + 1)) a0_0 a0_1 l0_2) else (none))) else (none)) = some r := H
                                                      have A65 := Aside0.mk A650
                                                      clear A650
                                                      by_cases c66 : ((((((x4_2 ++ t158) ++ t159) ++ t160) ++ t161) ++ t162) ++ t163).size + t165.size ≤ 9223372036854775807
                                                      · rw [if_pos c66] at H
                                                        have c66b0 := eq_true c66
                                                        have c66b1 : decide (((((((x4_2 ++ t158) ++ t159) ++ t160) ++ t161) ++ t162) ++ t163).size + t165.size ≤ 9223372036854775807) = true := decide_eq_true c66
                                                        try have c66b2 : (9223372036854775807 < ((((((x4_2 ++ t158) ++ t159) ++ t160) ++ t161) ++ t162) ++ t163).size + t165.size) = False := eq_false (Nat.not_lt.2 c66)
                                                        (try (have c66b3 := c66b2; simp only [ByteArray.size_append] at c66b3))
                                                        replace H := Option.bind_eq_some_iff.mp H
                                                        obtain ⟨t166, A670, H⟩ := H
                                                        replace H : (if (((((((x4_2 ++ t158) ++ t159) ++ t160) ++ t161) ++ t162) ++ t163) ++ t165).size + t166.size ≤ 9223372036854775807 then (ferryref13_Write.l0 k2 ((((((((x4_2 ++ t158) ++ t159) ++ t160) ++ t161) ++ t162) ++ t163) ++ t165) ++ t166) (wrap64 (x5_2 + 1)) a0_0 a0_1 l0_2) else (none)) = some r := H
                                                        have A67 := Aside0.mk A670
                                                        clear A670
                                                        by_cases c68 : (((((((x4_2 ++ t158) ++ t159) ++ t160) ++ t161) ++ t162) ++ t163) ++ t165).size + t166.size ≤ 9223372036854775807
                                                        · rw [if_pos c68] at H
                                                          have c68b0 := eq_true c68
                                                          have c68b1 : decide ((((((((x4_2 ++ t158) ++ t159) ++ t160) ++ t161) ++ t162) ++ t163) ++ t165).size + t166.size ≤ 9223372036854775807) = true := decide_eq_true c68
                                                          try have c68b2 : (9223372036854775807 < (((((((x4_2 ++ t158) ++ t159) ++ t160) ++ t161) ++ t162) ++ t163) ++ t165).size + t166.size) = False := eq_false (Nat.not_lt.2 c68)
                                                          (try (have c68b3 := c68b2; simp only [ByteArray.size_append] at c68b3))
                                                          have H' := Aside0.mk H
                                                          clear H
                                                          have hcz69_0 : wr.cell? ⟨gb141, 0, none⟩ = some (.bool a0_0) := (blk_cell BK141.out 0).trans rfl
                                                          have hcz69_1 : wr.cell? ⟨gb141, 1, none⟩ = some (.int .u32 a0_1) := (blk_cell BK141.out 1).trans rfl
                                                          have hcz69_2 : wr.cell? ⟨gb141, 2, none⟩ = some (.slice A0_2 l0_2.length c0_2) := (blk_cell BK141.out 2).trans rfl
                                                          have hfz69_0 := blk_frozen BK141.out 0
                                                          have hfz69_1 := blk_frozen BK141.out 1
                                                          have hfz69_2 := blk_frozen BK141.out 2
                                                          have p156 : 0 ≤ (x5_2 : Int) := of_decide_eq_true (by first | (with_reducible assumption) | assumption)
                                                          have q156 : x5_2 < (l0_2.length : Int) := of_decide_eq_true (by first | (with_reducible assumption) | assumption)
                                                          obtain ⟨ad156, e156, hx156_0, hx156_1, hx156_2, hx156_3, hx156_4, hx156_5, hx156_6⟩ := at_T39 HR0_2.out x5_2 p156 q156
                                                          cases e156
                                                          replace hx156_0 := (HB.out.cell (World.block_lt_of_cell? w _ hx156_0)).trans hx156_0
                                                          replace hx156_1 := (HB.out.cell (World.block_lt_of_cell? w _ hx156_1)).trans hx156_1
                                                          replace hx156_2 := (HB.out.cell (World.block_lt_of_cell? w _ hx156_2)).trans hx156_2
                                                          replace hx156_3 := (HB.out.cell (World.block_lt_of_cell? w _ hx156_3)).trans hx156_3
                                                          replace hx156_4 := (HB.out.cell (World.block_lt_of_cell? w _ hx156_4)).trans hx156_4
                                                          replace hx156_5 := (HB.out.cell (World.block_lt_of_cell? w _ hx156_5)).trans hx156_5
                                                          replace hx156_6 := (HB.out.cell (World.block_lt_of_cell? w _ hx156_6)).trans hx156_6
                                                          replace p156 := eq_true p156
                                                          replace q156 := eq_true q156
                                                          try go_wp2_with (first | ((with_reducible refine gate_dst (N := 6) rfl ?_); refine box_event ?hg (N := 6) ?hd (cs := #[.int .i64 0, .int .u32 0, .int .u32 0, .int .u32 0, .int .u32 0, .int .i64 0, .int .u32 0]) (t := 39) ?hr ?_; (case hd => rfl); (case hg => rfl); (case hr => first | (go_simp; done) | (go_simp; rfl)); intro gb157 hg w70 hbox hb; have n0_ := Aside0.mk (blk_below (g := gb141) (o := .cells #[.bool a0_0, .int .u32 a0_1, .slice (some ad156) l0_2.length c0_2] 26 (0, 0)) (by (with_reducible repeat (first | refine blk_drewN ?_ _ | refine blk_drew ?_ | refine blk_alloc ?_ _)); exact BK141.out) hb); have n1_ := Aside0.mk (below_step (by repeat (first | (with_reducible first | exact HB.out | apply below_alloc | apply pw_below_drewN | apply below_drew1 | refine below_set ?_ GE141.out) | exact HB.out)) hb); have n2_ := Aside0.mk (hbox); have n3_ := Aside0.mk ((by rw [hg]; exact (below_size (by repeat (first | (with_reducible first | exact HB.out | apply below_alloc | apply pw_below_drewN | apply below_drew1 | refine below_set ?_ GE141.out) | exact HB.out))) : w.heap.size ≤ gb157)); have n4_ := Aside0.mk ((by rw [hg]; exact (below_size (by repeat (first | (with_reducible first | exact HB.out | apply below_alloc | apply pw_below_drewN | apply below_drew1 | refine below_set ?_ GE141.out) | exact HB.out))) : w.heap.size ≤ gb157)); have n5_ := Aside0.mk ((by rw [hg]; exact Nat.ne_of_lt (blk_lt (g := gb141) (o := .cells #[.bool a0_0, .int .u32 a0_1, .slice (some ad156) l0_2.length c0_2] 26 (0, 0)) (by (with_reducible repeat (first | refine blk_drewN ?_ _ | refine blk_drew ?_ | refine blk_alloc ?_ _)); exact BK141.out)) : gb141 ≠ gb157)); have n6_ := Aside0.mk ((by rw [hg]; exact Nat.ne_of_gt (blk_lt (g := gb141) (o := .cells #[.bool a0_0, .int .u32 a0_1, .slice (some ad156) l0_2.length c0_2] 26 (0, 0)) (by (with_reducible repeat (first | refine blk_drewN ?_ _ | refine blk_drew ?_ | refine blk_alloc ?_ _)); exact BK141.out)) : gb157 ≠ gb141)); clear BK141; clear HB; have BK141 := n0_; have HB := n1_; have BK157 := n2_; have GW157 := n3_; have GE157 := n4_; have NB141_157 := n5_; have NB157_141 := n6_; clear n0_ n1_ n2_ n3_ n4_ n5_ n6_; clear hb hbox hg; have hnb71 := NB157_141.out; have hnc71 := NB141_157.out; have hcz72_0 : w70.cell? ⟨gb157, 0, none⟩ = some (.int .i64 0) := (blk_cell BK157.out 0).trans rfl; have hcz72_1 : w70.cell? ⟨gb157, 1, none⟩ = some (.int .u32 0) := (blk_cell BK157.out 1).trans rfl; have hcz72_2 : w70.cell? ⟨gb157, 2, none⟩ = some (.int .u32 0) := (blk_cell BK157.out 2).trans rfl; have hcz72_3 : w70.cell? ⟨gb157, 3, none⟩ = some (.int .u32 0) := (blk_cell BK157.out 3).trans rfl; have hcz72_4 : w70.cell? ⟨gb157, 4, none⟩ = some (.int .u32 0) := (blk_cell BK157.out 4).trans rfl; have hcz72_5 : w70.cell? ⟨gb157, 5, none⟩ = some (.int .i64 0) := (blk_cell BK157.out 5).trans rfl; have hcz72_6 : w70.cell? ⟨gb157, 6, none⟩ = some (.int .u32 0) := (blk_cell BK157.out 6).trans rfl; have hfz72_0 := blk_frozen BK157.out 0; have hfz72_1 := blk_frozen BK157.out 1; have hfz72_2 := blk_frozen BK157.out 2; have hfz72_3 := blk_frozen BK157.out 3; have hfz72_4 := blk_frozen BK157.out 4; have hfz72_5 := blk_frozen BK157.out 5; have hfz72_6 := blk_frozen BK157.out 6))
                                                          have n0_ : Aside0 ((((((((w70.setCell ⟨gb157, 0, none⟩ (.int .i64 ((rd_T39 l0_2 x5_2).f0))).setCell ⟨gb157, 1, none⟩ (.int .u32 ((rd_T39 l0_2 x5_2).f1))).setCell ⟨gb157, 2, none⟩ (.int .u32 ((rd_T39 l0_2 x5_2).f2))).setCell ⟨gb157, 3, none⟩ (.int .u32 ((rd_T39 l0_2 x5_2).f3))).setCell ⟨gb157, 4, none⟩ (.int .u32 ((rd_T39 l0_2 x5_2).f4))).setCell ⟨gb157, 5, none⟩ (.int .i64 ((rd_T39 l0_2 x5_2).f5))).setCell ⟨gb157, 6, none⟩ (.int .u32 ((rd_T39 l0_2 x5_2).f6))).heap[gb141]? = some (.cells #[.bool a0_0, .int .u32 a0_1, .slice (some ad156) l0_2.length c0_2] 26 (0, 0))) := ⟨by (with_reducible repeat (first | refine blk_drewN ?_ _ | refine blk_drew ?_ | refine blk_alloc ?_ _)); refine blk_far ?_ NB141_157.out _; (with_reducible repeat (first | refine blk_drewN ?_ _ | refine blk_drew ?_ | refine blk_alloc ?_ _)); refine blk_far ?_ NB141_157.out _; (with_reducible repeat (first | refine blk_drewN ?_ _ | refine blk_drew ?_ | refine blk_alloc ?_ _)); refine blk_far ?_ NB141_157.out _; (with_reducible repeat (first | refine blk_drewN ?_ _ | refine blk_drew ?_ | refine blk_alloc ?_ _)); refine blk_far ?_ NB141_157.out _; (with_reducible repeat (first | refine blk_drewN ?_ _ | refine blk_drew ?_ | refine blk_alloc ?_ _)); refine blk_far ?_ NB141_157.out _; (with_reducible repeat (first | refine blk_drewN ?_ _ | refine blk_drew ?_ | refine blk_alloc ?_ _)); refine blk_far ?_ NB141_157.out _; (with_reducible repeat (first | refine blk_drewN ?_ _ | refine blk_drew ?_ | refine blk_alloc ?_ _)); refine blk_far ?_ NB141_157.out _; (with_reducible repeat (first | refine blk_drewN ?_ _ | refine blk_drew ?_ | refine blk_alloc ?_ _)); exact BK141.out⟩
                                                          have n1_ : Aside0 ((((((((w70.setCell ⟨gb157, 0, none⟩ (.int .i64 ((rd_T39 l0_2 x5_2).f0))).setCell ⟨gb157, 1, none⟩ (.int .u32 ((rd_T39 l0_2 x5_2).f1))).setCell ⟨gb157, 2, none⟩ (.int .u32 ((rd_T39 l0_2 x5_2).f2))).setCell ⟨gb157, 3, none⟩ (.int .u32 ((rd_T39 l0_2 x5_2).f3))).setCell ⟨gb157, 4, none⟩ (.int .u32 ((rd_T39 l0_2 x5_2).f4))).setCell ⟨gb157, 5, none⟩ (.int .i64 ((rd_T39 l0_2 x5_2).f5))).setCell ⟨gb157, 6, none⟩ (.int .u32 ((rd_T39 l0_2 x5_2).f6))).heap[gb157]? = some (.cells #[.int .i64 ((rd_T39 l0_2 x5_2).f0), .int .u32 ((rd_T39 l0_2 x5_2).f1), .int .u32 ((rd_T39 l0_2 x5_2).f2), .int .u32 ((rd_T39 l0_2 x5_2).f3), .int .u32 ((rd_T39 l0_2 x5_2).f4), .int .i64 ((rd_T39 l0_2 x5_2).f5), .int .u32 ((rd_T39 l0_2 x5_2).f6)] 39 (0, 0))) := ⟨by (with_reducible repeat (first | refine blk_drewN ?_ _ | refine blk_drew ?_ | refine blk_alloc ?_ _)); refine blk_put (cs := #[.int .i64 ((rd_T39 l0_2 x5_2).f0), .int .u32 ((rd_T39 l0_2 x5_2).f1), .int .u32 ((rd_T39 l0_2 x5_2).f2), .int .u32 ((rd_T39 l0_2 x5_2).f3), .int .u32 ((rd_T39 l0_2 x5_2).f4), .int .i64 ((rd_T39 l0_2 x5_2).f5), .int .u32 0]) ?_ 6 _ rfl; (with_reducible repeat (first | refine blk_drewN ?_ _ | refine blk_drew ?_ | refine blk_alloc ?_ _)); refine blk_put (cs := #[.int .i64 ((rd_T39 l0_2 x5_2).f0), .int .u32 ((rd_T39 l0_2 x5_2).f1), .int .u32 ((rd_T39 l0_2 x5_2).f2), .int .u32 ((rd_T39 l0_2 x5_2).f3), .int .u32 ((rd_T39 l0_2 x5_2).f4), .int .i64 0, .int .u32 0]) ?_ 5 _ rfl; (with_reducible repeat (first | refine blk_drewN ?_ _ | refine blk_drew ?_ | refine blk_alloc ?_ _)); refine blk_put (cs := #[.int .i64 ((rd_T39 l0_2 x5_2).f0), .int .u32 ((rd_T39 l0_2 x5_2).f1), .int .u32 ((rd_T39 l0_2 x5_2).f2), .int .u32 ((rd_T39 l0_2 x5_2).f3), .int .u32 0, .int .i64 0, .int .u32 0]) ?_ 4 _ rfl; (with_reducible repeat (first | refine blk_drewN ?_ _ | refine blk_drew ?_ | refine blk_alloc ?_ _)); refine blk_put (cs := #[.int .i64 ((rd_T39 l0_2 x5_2).f0), .int .u32 ((rd_T39 l0_2 x5_2).f1), .int .u32 ((rd_T39 l0_2 x5_2).f2), .int .u32 0, .int .u32 0, .int .i64 0, .int .u32 0]) ?_ 3 _ rfl; (with_reducible repeat (first | refine blk_drewN ?_ _ | refine blk_drew ?_ | refine blk_alloc ?_ _)); refine blk_put (cs := #[.int .i64 ((rd_T39 l0_2 x5_2).f0), .int .u32 ((rd_T39 l0_2 x5_2).f1), .int .u32 0, .int .u32 0, .int .u32 0, .int .i64 0, .int .u32 0]) ?_ 2 _ rfl; (with_reducible repeat (first | refine blk_drewN ?_ _ | refine blk_drew ?_ | refine blk_alloc ?_ _)); refine blk_put (cs := #[.int .i64 ((rd_T39 l0_2 x5_2).f0), .int .u32 0, .int .u32 0, .int .u32 0, .int .u32 0, .int .i64 0, .int .u32 0]) ?_ 1 _ rfl; (with_reducible repeat (first | refine blk_drewN ?_ _ | refine blk_drew ?_ | refine blk_alloc ?_ _)); refine blk_put (cs := #[.int .i64 0, .int .u32 0, .int .u32 0, .int .u32 0, .int .u32 0, .int .i64 0, .int .u32 0]) ?_ 0 _ rfl; (with_reducible repeat (first | refine blk_drewN ?_ _ | refine blk_drew ?_ | refine blk_alloc ?_ _)); exact BK157.out⟩
                                                          have n2_ : Aside0 (Below w.heap.size w (((((((w70.setCell ⟨gb157, 0, none⟩ (.int .i64 ((rd_T39 l0_2 x5_2).f0))).setCell ⟨gb157, 1, none⟩ (.int .u32 ((rd_T39 l0_2 x5_2).f1))).setCell ⟨gb157, 2, none⟩ (.int .u32 ((rd_T39 l0_2 x5_2).f2))).setCell ⟨gb157, 3, none⟩ (.int .u32 ((rd_T39 l0_2 x5_2).f3))).setCell ⟨gb157, 4, none⟩ (.int .u32 ((rd_T39 l0_2 x5_2).f4))).setCell ⟨gb157, 5, none⟩ (.int .i64 ((rd_T39 l0_2 x5_2).f5))).setCell ⟨gb157, 6, none⟩ (.int .u32 ((rd_T39 l0_2 x5_2).f6)))) := ⟨by repeat (first | (with_reducible first | exact HB.out | apply below_alloc | apply pw_below_drewN | apply below_drew1 | refine below_set ?_ GE141.out | refine below_set ?_ GE157.out) | exact HB.out)⟩
                                                          (try clear BK141)
                                                          (try clear BK157)
                                                          (try clear HB)
                                                          generalize (((((((w70.setCell ⟨gb157, 0, none⟩ (.int .i64 ((rd_T39 l0_2 x5_2).f0))).setCell ⟨gb157, 1, none⟩ (.int .u32 ((rd_T39 l0_2 x5_2).f1))).setCell ⟨gb157, 2, none⟩ (.int .u32 ((rd_T39 l0_2 x5_2).f2))).setCell ⟨gb157, 3, none⟩ (.int .u32 ((rd_T39 l0_2 x5_2).f3))).setCell ⟨gb157, 4, none⟩ (.int .u32 ((rd_T39 l0_2 x5_2).f4))).setCell ⟨gb157, 5, none⟩ (.int .i64 ((rd_T39 l0_2 x5_2).f5))).setCell ⟨gb157, 6, none⟩ (.int .u32 ((rd_T39 l0_2 x5_2).f6))) = w73 at n0_ n1_ n2_ ⊢
                                                          have BK141 := n0_
                                                          have BK157 := n1_
                                                          have HB := n2_
                                                          clear n0_ n1_ n2_
                                                          have n0_ := Aside0.mk (blk_drew BK141.out)
                                                          have n1_ := Aside0.mk (blk_drew BK157.out)
                                                          have n2_ := Aside0.mk (below_drew1 HB.out)
                                                          clear BK141
                                                          clear BK157
                                                          clear HB
                                                          have BK141 := n0_
                                                          have BK157 := n1_
                                                          have HB := n2_
                                                          clear n0_ n1_ n2_
                                                          refine start_ (n := 36) (S := fun w' => w'.cell? ⟨gb157, 0, none⟩ = some (.int .i64 ((rd_T39 l0_2 x5_2).f0)) ∧ w'.cell? ⟨gb157, 1, none⟩ = some (.int .u32 ((rd_T39 l0_2 x5_2).f1)) ∧ w'.cell? ⟨gb157, 2, none⟩ = some (.int .u32 ((rd_T39 l0_2 x5_2).f2)) ∧ w'.cell? ⟨gb157, 3, none⟩ = some (.int .u32 ((rd_T39 l0_2 x5_2).f3)) ∧ w'.cell? ⟨gb157, 4, none⟩ = some (.int .u32 ((rd_T39 l0_2 x5_2).f4)) ∧ w'.cell? ⟨gb157, 5, none⟩ = some (.int .i64 ((rd_T39 l0_2 x5_2).f5)) ∧ w'.cell? ⟨gb157, 6, none⟩ = some (.int .u32 ((rd_T39 l0_2 x5_2).f6))) (ds := []) #[false, false, false, false, false, false, false, false, false, false, false, false, false, false, false, false, false, false, false, false, false, false, false, false, false, false, false, false, false, false, false, false, false, false, false, false] (by kernel_rfl) rfl rfl ⟨(blk_cell BK157.out 0).trans rfl, (blk_cell BK157.out 1).trans rfl, (blk_cell BK157.out 2).trans rfl, (blk_cell BK157.out 3).trans rfl, (blk_cell BK157.out 4).trans rfl, (blk_cell BK157.out 5).trans rfl, (blk_cell BK157.out 6).trans rfl⟩ (fun hHeld => ?_); refine with_tabW ferryref13_Write.tab11 ferryref13_Write.bits11 (fun HT_ HW_ => ?_)
                                                          generalize w73.drew = w74 at BK141 BK157 HB hHeld ⊢
                                                          refine pure_ (i := 0) (N := some 56) (v := ?_) (a' := ?_) #[true, false, false, false, false, false, false, false, false, false, false, false, false, false, false, false, false, false, false, false, false, false, false, false, false, false, false, false, false, false, false, false, false, false, false, false] rfl rfl (any_of HT_.out (by kernel_rfl)) (fun _ _ _ h => h) (Or.inl ⟨by rfl, ?_⟩) ?_ ?_
                                                          rotate_left
                                                          · intro w'
                                                            go_simp
                                                            with_reducible rfl
                                                          rotate_left
                                                          · simp only [Act.put, List.setIfInBounds_toArray, List.set_cons_zero, List.set_cons_succ, i64_w, i32_w]
                                                            rfl
                                                          refine pure_ (i := 1) (N := some 57) (v := ?_) (a' := ?_) #[true, true, false, false, false, false, false, false, false, false, false, false, false, false, false, false, false, false, false, false, false, false, false, false, false, false, false, false, false, false, false, false, false, false, false, false] rfl rfl (any_of HT_.out (by kernel_rfl)) (fun _ _ _ h => h) (Or.inl ⟨by rfl, ?_⟩) ?_ ?_
                                                          rotate_left
                                                          · intro w'
                                                            go_simp
                                                            with_reducible rfl
                                                          rotate_left
                                                          · simp only [Act.put, List.setIfInBounds_toArray, List.set_cons_zero, List.set_cons_succ, i64_w, i32_w]
                                                            rfl
                                                          refine pure_ (i := 6) (N := some 62) (v := ?_) (a' := ?_) #[true, true, false, false, false, false, true, false, false, false, false, false, false, false, false, false, false, false, false, false, false, false, false, false, false, false, false, false, false, false, false, false, false, false, false, false] rfl rfl (any_of HT_.out (by kernel_rfl)) (fun _ _ _ h => h) (Or.inl ⟨by rfl, ?_⟩) ?_ ?_
                                                          rotate_left
                                                          · intro w'
                                                            go_simp
                                                            with_reducible rfl
                                                          rotate_left
                                                          · simp only [Act.put, List.setIfInBounds_toArray, List.set_cons_zero, List.set_cons_succ, i64_w, i32_w]
                                                            rfl
                                                          refine pure_ (i := 10) (N := some 66) (v := ?_) (a' := ?_) #[true, true, false, false, false, false, true, false, false, false, true, false, false, false, false, false, false, false, false, false, false, false, false, false, false, false, false, false, false, false, false, false, false, false, false, false] rfl rfl (any_of HT_.out (by kernel_rfl)) (fun _ _ _ h => h) (Or.inl ⟨by rfl, ?_⟩) ?_ ?_
                                                          rotate_left
                                                          · intro w'
                                                            go_simp
                                                            with_reducible rfl
                                                          rotate_left
                                                          · simp only [Act.put, List.setIfInBounds_toArray, List.set_cons_zero, List.set_cons_succ, i64_w, i32_w]
                                                            rfl
                                                          refine pure_ (i := 14) (N := some 70) (v := ?_) (a' := ?_) #[true, true, false, false, false, false, true, false, false, false, true, false, false, false, true, false, false, false, false, false, false, false, false, false, false, false, false, false, false, false, false, false, false, false, false, false] rfl rfl (any_of HT_.out (by kernel_rfl)) (fun _ _ _ h => h) (Or.inl ⟨by rfl, ?_⟩) ?_ ?_
                                                          rotate_left
                                                          · intro w'
                                                            go_simp
                                                            with_reducible rfl
                                                          rotate_left
                                                          · simp only [Act.put, List.setIfInBounds_toArray, List.set_cons_zero, List.set_cons_succ, i64_w, i32_w]
                                                            rfl
                                                          refine pure_ (i := 18) (N := some 74) (v := ?_) (a' := ?_) #[true, true, false, false, false, false, true, false, false, false, true, false, false, false, true, false, false, false, true, false, false, false, false, false, false, false, false, false, false, false, false, false, false, false, false, false] rfl rfl (any_of HT_.out (by kernel_rfl)) (fun _ _ _ h => h) (Or.inl ⟨by rfl, ?_⟩) ?_ ?_
                                                          rotate_left
                                                          · intro w'
                                                            go_simp
                                                            with_reducible rfl
                                                          rotate_left
                                                          · simp only [Act.put, List.setIfInBounds_toArray, List.set_cons_zero, List.set_cons_succ, i64_w, i32_w]
                                                            rfl
                                                          refine pure_ (i := 22) (N := some 78) (v := ?_) (a' := ?_) #[true, true, false, false, false, false, true, false, false, false, true, false, false, false, true, false, false, false, true, false, false, false, true, false, false, false, false, false, false, false, false, false, false, false, false, false] rfl rfl (any_of HT_.out (by kernel_rfl)) (fun _ _ _ h => h) (Or.inl ⟨by rfl, ?_⟩) ?_ ?_
                                                          rotate_left
                                                          · intro w'
                                                            go_simp
                                                            with_reducible rfl
                                                          rotate_left
                                                          · simp only [Act.put, List.setIfInBounds_toArray, List.set_cons_zero, List.set_cons_succ, i64_w, i32_w]
                                                            rfl
                                                          refine pure_ (i := 26) (N := some 82) (v := ?_) (a' := ?_) #[true, true, false, false, false, false, true, false, false, false, true, false, false, false, true, false, false, false, true, false, false, false, true, false, false, false, true, false, false, false, false, false, false, false, false, false] rfl rfl (any_of HT_.out (by kernel_rfl)) (fun _ _ _ h => h) (Or.inl ⟨by rfl, ?_⟩) ?_ ?_
                                                          rotate_left
                                                          · intro w'
                                                            go_simp
                                                            with_reducible rfl
                                                          rotate_left
                                                          · simp only [Act.put, List.setIfInBounds_toArray, List.set_cons_zero, List.set_cons_succ, i64_w, i32_w]
                                                            rfl
                                                          refine pure_ (i := 31) (N := some 87) (v := ?_) (a' := ?_) #[true, true, false, false, false, false, true, false, false, false, true, false, false, false, true, false, false, false, true, false, false, false, true, false, false, false, true, false, false, false, false, true, false, false, false, false] rfl rfl (any_of HT_.out (by kernel_rfl)) (fun _ _ _ h => h) (Or.inl ⟨by rfl, ?_⟩) ?_ ?_
                                                          rotate_left
                                                          · intro w'
                                                            go_simp
                                                            with_reducible rfl
                                                          rotate_left
                                                          · simp only [Act.put, List.setIfInBounds_toArray, List.set_cons_zero, List.set_cons_succ, i64_w, i32_w]
                                                            rfl
                                                          refine take_ (i := 2) (N := some 58) (v := ?_) (a' := ?_) #[true, true, true, false, false, false, true, false, false, false, true, false, false, false, true, false, false, false, true, false, false, false, true, false, false, false, true, false, false, false, false, true, false, false, false, false] rfl rfl (take_ofW HT_.out HW_.out (by kernel_rfl)) (fun _ _ _ h => h) (Or.inl ⟨by rfl, ?_⟩) hHeld ?_ ?_
                                                          rotate_left
                                                          · rintro w' ⟨s0, s1, s2, s3, s4, s5, s6⟩
                                                            go_simp
                                                            with_reducible rfl
                                                          rotate_left
                                                          · simp only [Act.put, List.setIfInBounds_toArray, List.set_cons_zero, List.set_cons_succ, i64_w, i32_w]
                                                            rfl
                                                          refine pure_ (i := 3) (N := some 59) (v := ?_) (a' := ?_) #[true, true, true, true, false, false, true, false, false, false, true, false, false, false, true, false, false, false, true, false, false, false, true, false, false, false, true, false, false, false, false, true, false, false, false, false] rfl rfl (any_of HT_.out (by kernel_rfl)) (fun _ _ _ h => h) (Or.inl ⟨by rfl, ?_⟩) ?_ ?_
                                                          rotate_left
                                                          · intro w'
                                                            go_simp
                                                            with_reducible rfl
                                                          rotate_left
                                                          · simp only [Act.put, List.setIfInBounds_toArray, List.set_cons_zero, List.set_cons_succ, i64_w, i32_w]
                                                            rfl
                                                          refine take_ (i := 7) (N := some 63) (v := ?_) (a' := ?_) #[true, true, true, true, false, false, true, true, false, false, true, false, false, false, true, false, false, false, true, false, false, false, true, false, false, false, true, false, false, false, false, true, false, false, false, false] rfl rfl (take_ofW HT_.out HW_.out (by kernel_rfl)) (fun _ _ _ h => h) (Or.inl ⟨by rfl, ?_⟩) hHeld ?_ ?_
                                                          rotate_left
                                                          · rintro w' ⟨s0, s1, s2, s3, s4, s5, s6⟩
                                                            go_simp
                                                            with_reducible rfl
                                                          rotate_left
                                                          · simp only [Act.put, List.setIfInBounds_toArray, List.set_cons_zero, List.set_cons_succ, i64_w, i32_w]
                                                            rfl
                                                          refine take_ (i := 11) (N := some 67) (v := ?_) (a' := ?_) #[true, true, true, true, false, false, true, true, false, false, true, true, false, false, true, false, false, false, true, false, false, false, true, false, false, false, true, false, false, false, false, true, false, false, false, false] rfl rfl (take_ofW HT_.out HW_.out (by kernel_rfl)) (fun _ _ _ h => h) (Or.inl ⟨by rfl, ?_⟩) hHeld ?_ ?_
                                                          rotate_left
                                                          · rintro w' ⟨s0, s1, s2, s3, s4, s5, s6⟩
                                                            go_simp
                                                            with_reducible rfl
                                                          rotate_left
                                                          · simp only [Act.put, List.setIfInBounds_toArray, List.set_cons_zero, List.set_cons_succ, i64_w, i32_w]
                                                            rfl
                                                          refine take_ (i := 15) (N := some 71) (v := ?_) (a' := ?_) #[true, true, true, true, false, false, true, true, false, false, true, true, false, false, true, true, false, false, true, false, false, false, true, false, false, false, true, false, false, false, false, true, false, false, false, false] rfl rfl (take_ofW HT_.out HW_.out (by kernel_rfl)) (fun _ _ _ h => h) (Or.inl ⟨by rfl, ?_⟩) hHeld ?_ ?_
                                                          rotate_left
                                                          · rintro w' ⟨s0, s1, s2, s3, s4, s5, s6⟩
                                                            go_simp
                                                            with_reducible rfl
                                                          rotate_left
                                                          · simp only [Act.put, List.setIfInBounds_toArray, List.set_cons_zero, List.set_cons_succ, i64_w, i32_w]
                                                            rfl
                                                          refine take_ (i := 19) (N := some 75) (v := ?_) (a' := ?_) #[true, true, true, true, false, false, true, true, false, false, true, true, false, false, true, true, false, false, true, true, false, false, true, false, false, false, true, false, false, false, false, true, false, false, false, false] rfl rfl (take_ofW HT_.out HW_.out (by kernel_rfl)) (fun _ _ _ h => h) (Or.inl ⟨by rfl, ?_⟩) hHeld ?_ ?_
                                                          rotate_left
                                                          · rintro w' ⟨s0, s1, s2, s3, s4, s5, s6⟩
                                                            go_simp
                                                            with_reducible rfl
                                                          rotate_left
                                                          · simp only [Act.put, List.setIfInBounds_toArray, List.set_cons_zero, List.set_cons_succ, i64_w, i32_w]
                                                            rfl
                                                          refine take_ (i := 23) (N := some 79) (v := ?_) (a' := ?_) #[true, true, true, true, false, false, true, true, false, false, true, true, false, false, true, true, false, false, true, true, false, false, true, true, false, false, true, false, false, false, false, true, false, false, false, false] rfl rfl (take_ofW HT_.out HW_.out (by kernel_rfl)) (fun _ _ _ h => h) (Or.inl ⟨by rfl, ?_⟩) hHeld ?_ ?_
                                                          rotate_left
                                                          · rintro w' ⟨s0, s1, s2, s3, s4, s5, s6⟩
                                                            go_simp
                                                            with_reducible rfl
                                                          rotate_left
                                                          · simp only [Act.put, List.setIfInBounds_toArray, List.set_cons_zero, List.set_cons_succ, i64_w, i32_w]
                                                            rfl
                                                          refine take_ (i := 27) (N := some 83) (v := ?_) (a' := ?_) #[true, true, true, true, false, false, true, true, false, false, true, true, false, false, true, true, false, false, true, true, false, false, true, true, false, false, true, true, false, false, false, true, false, false, false, false] rfl rfl (take_ofW HT_.out HW_.out (by kernel_rfl)) (fun _ _ _ h => h) (Or.inl ⟨by rfl, ?_⟩) hHeld ?_ ?_
                                                          rotate_left
                                                          · rintro w' ⟨s0, s1, s2, s3, s4, s5, s6⟩
                                                            go_simp
                                                            with_reducible rfl
                                                          rotate_left
                                                          · simp only [Act.put, List.setIfInBounds_toArray, List.set_cons_zero, List.set_cons_succ, i64_w, i32_w]
                                                            rfl
                                                          refine take_ (i := 32) (N := some 88) (v := ?_) (a' := ?_) #[true, true, true, true, false, false, true, true, false, false, true, true, false, false, true, true, false, false, true, true, false, false, true, true, false, false, true, true, false, false, false, true, true, false, false, false] rfl rfl (take_ofW HT_.out HW_.out (by kernel_rfl)) (fun _ _ _ h => h) (Or.inl ⟨by rfl, ?_⟩) hHeld ?_ ?_
                                                          rotate_left
                                                          · rintro w' ⟨s0, s1, s2, s3, s4, s5, s6⟩
                                                            go_simp
                                                            with_reducible rfl
                                                          rotate_left
                                                          · simp only [Act.put, List.setIfInBounds_toArray, List.set_cons_zero, List.set_cons_succ, i64_w, i32_w]
                                                            rfl
                                                          refine one_ (i := 4) (N := some 60) #[true, true, true, true, true, false, true, true, false, false, true, true, false, false, true, true, false, false, true, true, false, false, true, true, false, false, true, true, false, false, false, true, true, false, false, false] rfl rfl (one_of HT_.out (by kernel_rfl)) (by decide) (fun K hK => ?_)
                                                          refine goes_ Try.func33 (by kernel_rfl) rfl #[.int .u32 (((rd_T39 l0_2 x5_2).f0) % 4294967296)] (by rfl) rfl rfl (by (try simp only [List.map_toArray, List.map_cons, List.map_nil]); first | done | rfl | (simp only [List.length_drop, List.length_take]; rfl)) ?_
                                                          with_reducible refine (ferryref13_w.calls k2 (((rd_T39 l0_2 x5_2).f0) % 4294967296) t158 _ A52.out).mono ?_
                                                          rintro e w75 ⟨rfl, hb⟩
                                                          refine ⟨_, rfl, ?_⟩
                                                          have n0_ := Aside0.mk (blk_below (g := gb141) (o := .cells #[.bool a0_0, .int .u32 a0_1, .slice (some ad156) l0_2.length c0_2] 26 (0, 0)) (by (with_reducible repeat (first | refine blk_drewN ?_ _ | refine blk_drew ?_ | refine blk_alloc ?_ _)); exact BK141.out) hb)
                                                          have n1_ := Aside0.mk (blk_below (g := gb157) (o := .cells #[.int .i64 ((rd_T39 l0_2 x5_2).f0), .int .u32 ((rd_T39 l0_2 x5_2).f1), .int .u32 ((rd_T39 l0_2 x5_2).f2), .int .u32 ((rd_T39 l0_2 x5_2).f3), .int .u32 ((rd_T39 l0_2 x5_2).f4), .int .i64 ((rd_T39 l0_2 x5_2).f5), .int .u32 ((rd_T39 l0_2 x5_2).f6)] 39 (0, 0)) (by (with_reducible repeat (first | refine blk_drewN ?_ _ | refine blk_drew ?_ | refine blk_alloc ?_ _)); exact BK157.out) hb)
                                                          have n2_ := Aside0.mk (below_step (by repeat (first | (with_reducible first | exact HB.out | apply below_alloc | apply pw_below_drewN | apply below_drew1 | refine below_set ?_ GE141.out | refine below_set ?_ GE157.out) | exact HB.out)) hb)
                                                          clear BK141
                                                          clear BK157
                                                          clear HB
                                                          have BK141 := n0_
                                                          have BK157 := n1_
                                                          have HB := n2_
                                                          clear n0_ n1_ n2_
                                                          (try clear hb)
                                                          (try clear hb2)
                                                          (try clear hk)
                                                          (try clear hi)
                                                          refine hK.out _ _ ⟨(blk_cell BK157.out 0).trans rfl, (blk_cell BK157.out 1).trans rfl, (blk_cell BK157.out 2).trans rfl, (blk_cell BK157.out 3).trans rfl, (blk_cell BK157.out 4).trans rfl, (blk_cell BK157.out 5).trans rfl, (blk_cell BK157.out 6).trans rfl⟩ (fun hHeld => ?_)
                                                          clear hK K
                                                          refine norm_ (a' := ?_) ?_ ?_
                                                          rotate_left
                                                          · show Act.put _ (some 60) _ = _
                                                            simp only [Act.put, List.setIfInBounds_toArray, List.set_cons_zero, List.set_cons_succ, i64_w, i32_w]
                                                            rfl
                                                          refine pure_ (i := 5) (N := some 61) (v := ?_) (a' := ?_) #[true, true, true, true, true, true, true, true, false, false, true, true, false, false, true, true, false, false, true, true, false, false, true, true, false, false, true, true, false, false, false, true, true, false, false, false] rfl rfl (any_of HT_.out (by kernel_rfl)) (fun _ _ _ h => h) (Or.inl ⟨by rfl, ?_⟩) ?_ ?_
                                                          rotate_left
                                                          · intro w'
                                                            go_simp
                                                            with_reducible rfl
                                                          rotate_left
                                                          · simp only [Act.put, List.setIfInBounds_toArray, List.set_cons_zero, List.set_cons_succ, i64_w, i32_w]
                                                            rfl
                                                          refine one_ (i := 8) (N := some 64) #[true, true, true, true, true, true, true, true, true, false, true, true, false, false, true, true, false, false, true, true, false, false, true, true, false, false, true, true, false, false, false, true, true, false, false, false] rfl rfl (one_of HT_.out (by kernel_rfl)) (by decide) (fun K hK => ?_)
                                                          refine goes_ Try.func33 (by kernel_rfl) rfl #[.int .u32 ((rd_T39 l0_2 x5_2).f1)] (by rfl) rfl rfl (by (try simp only [List.map_toArray, List.map_cons, List.map_nil]); first | done | rfl | (simp only [List.length_drop, List.length_take]; rfl)) ?_
                                                          with_reducible refine (ferryref13_w.calls k2 ((rd_T39 l0_2 x5_2).f1) t159 _ A54.out).mono ?_
                                                          rintro e w76 ⟨rfl, hb⟩
                                                          refine ⟨_, rfl, ?_⟩
                                                          have n0_ := Aside0.mk (blk_below (g := gb141) (o := .cells #[.bool a0_0, .int .u32 a0_1, .slice (some ad156) l0_2.length c0_2] 26 (0, 0)) (by (with_reducible repeat (first | refine blk_drewN ?_ _ | refine blk_drew ?_ | refine blk_alloc ?_ _)); exact BK141.out) hb)
                                                          have n1_ := Aside0.mk (blk_below (g := gb157) (o := .cells #[.int .i64 ((rd_T39 l0_2 x5_2).f0), .int .u32 ((rd_T39 l0_2 x5_2).f1), .int .u32 ((rd_T39 l0_2 x5_2).f2), .int .u32 ((rd_T39 l0_2 x5_2).f3), .int .u32 ((rd_T39 l0_2 x5_2).f4), .int .i64 ((rd_T39 l0_2 x5_2).f5), .int .u32 ((rd_T39 l0_2 x5_2).f6)] 39 (0, 0)) (by (with_reducible repeat (first | refine blk_drewN ?_ _ | refine blk_drew ?_ | refine blk_alloc ?_ _)); exact BK157.out) hb)
                                                          have n2_ := Aside0.mk (below_step (by repeat (first | (with_reducible first | exact HB.out | apply below_alloc | apply pw_below_drewN | apply below_drew1 | refine below_set ?_ GE141.out | refine below_set ?_ GE157.out) | exact HB.out)) hb)
                                                          clear BK141
                                                          clear BK157
                                                          clear HB
                                                          have BK141 := n0_
                                                          have BK157 := n1_
                                                          have HB := n2_
                                                          clear n0_ n1_ n2_
                                                          (try clear hb)
                                                          (try clear hb2)
                                                          (try clear hk)
                                                          (try clear hi)
                                                          refine hK.out _ _ ⟨(blk_cell BK157.out 0).trans rfl, (blk_cell BK157.out 1).trans rfl, (blk_cell BK157.out 2).trans rfl, (blk_cell BK157.out 3).trans rfl, (blk_cell BK157.out 4).trans rfl, (blk_cell BK157.out 5).trans rfl, (blk_cell BK157.out 6).trans rfl⟩ (fun hHeld => ?_)
                                                          clear hK K
                                                          refine norm_ (a' := ?_) ?_ ?_
                                                          rotate_left
                                                          · show Act.put _ (some 64) _ = _
                                                            simp only [Act.put, List.setIfInBounds_toArray, List.set_cons_zero, List.set_cons_succ, i64_w, i32_w]
                                                            rfl
                                                          refine pure_ (i := 9) (N := some 65) (v := ?_) (a' := ?_) #[true, true, true, true, true, true, true, true, true, true, true, true, false, false, true, true, false, false, true, true, false, false, true, true, false, false, true, true, false, false, false, true, true, false, false, false] rfl rfl (any_of HT_.out (by kernel_rfl)) (fun _ _ _ h => h) (Or.inl ⟨by rfl, ?_⟩) ?_ ?_
                                                          rotate_left
                                                          · intro w'
                                                            go_simp
                                                            with_reducible rfl
                                                          rotate_left
                                                          · simp only [Act.put, List.setIfInBounds_toArray, List.set_cons_zero, List.set_cons_succ, i64_w, i32_w]
                                                            rfl
                                                          refine one_ (i := 12) (N := some 68) #[true, true, true, true, true, true, true, true, true, true, true, true, true, false, true, true, false, false, true, true, false, false, true, true, false, false, true, true, false, false, false, true, true, false, false, false] rfl rfl (one_of HT_.out (by kernel_rfl)) (by decide) (fun K hK => ?_)
                                                          refine goes_ Try.func33 (by kernel_rfl) rfl #[.int .u32 ((rd_T39 l0_2 x5_2).f2)] (by rfl) rfl rfl (by (try simp only [List.map_toArray, List.map_cons, List.map_nil]); first | done | rfl | (simp only [List.length_drop, List.length_take]; rfl)) ?_
                                                          with_reducible refine (ferryref13_w.calls k2 ((rd_T39 l0_2 x5_2).f2) t160 _ A56.out).mono ?_
                                                          rintro e w77 ⟨rfl, hb⟩
                                                          refine ⟨_, rfl, ?_⟩
                                                          have n0_ := Aside0.mk (blk_below (g := gb141) (o := .cells #[.bool a0_0, .int .u32 a0_1, .slice (some ad156) l0_2.length c0_2] 26 (0, 0)) (by (with_reducible repeat (first | refine blk_drewN ?_ _ | refine blk_drew ?_ | refine blk_alloc ?_ _)); exact BK141.out) hb)
                                                          have n1_ := Aside0.mk (blk_below (g := gb157) (o := .cells #[.int .i64 ((rd_T39 l0_2 x5_2).f0), .int .u32 ((rd_T39 l0_2 x5_2).f1), .int .u32 ((rd_T39 l0_2 x5_2).f2), .int .u32 ((rd_T39 l0_2 x5_2).f3), .int .u32 ((rd_T39 l0_2 x5_2).f4), .int .i64 ((rd_T39 l0_2 x5_2).f5), .int .u32 ((rd_T39 l0_2 x5_2).f6)] 39 (0, 0)) (by (with_reducible repeat (first | refine blk_drewN ?_ _ | refine blk_drew ?_ | refine blk_alloc ?_ _)); exact BK157.out) hb)
                                                          have n2_ := Aside0.mk (below_step (by repeat (first | (with_reducible first | exact HB.out | apply below_alloc | apply pw_below_drewN | apply below_drew1 | refine below_set ?_ GE141.out | refine below_set ?_ GE157.out) | exact HB.out)) hb)
                                                          clear BK141
                                                          clear BK157
                                                          clear HB
                                                          have BK141 := n0_
                                                          have BK157 := n1_
                                                          have HB := n2_
                                                          clear n0_ n1_ n2_
                                                          (try clear hb)
                                                          (try clear hb2)
                                                          (try clear hk)
                                                          (try clear hi)
                                                          refine hK.out _ _ ⟨(blk_cell BK157.out 0).trans rfl, (blk_cell BK157.out 1).trans rfl, (blk_cell BK157.out 2).trans rfl, (blk_cell BK157.out 3).trans rfl, (blk_cell BK157.out 4).trans rfl, (blk_cell BK157.out 5).trans rfl, (blk_cell BK157.out 6).trans rfl⟩ (fun hHeld => ?_)
                                                          clear hK K
                                                          refine norm_ (a' := ?_) ?_ ?_
                                                          rotate_left
                                                          · show Act.put _ (some 68) _ = _
                                                            simp only [Act.put, List.setIfInBounds_toArray, List.set_cons_zero, List.set_cons_succ, i64_w, i32_w]
                                                            rfl
                                                          refine pure_ (i := 13) (N := some 69) (v := ?_) (a' := ?_) #[true, true, true, true, true, true, true, true, true, true, true, true, true, true, true, true, false, false, true, true, false, false, true, true, false, false, true, true, false, false, false, true, true, false, false, false] rfl rfl (any_of HT_.out (by kernel_rfl)) (fun _ _ _ h => h) (Or.inl ⟨by rfl, ?_⟩) ?_ ?_
                                                          rotate_left
                                                          · intro w'
                                                            go_simp
                                                            with_reducible rfl
                                                          rotate_left
                                                          · simp only [Act.put, List.setIfInBounds_toArray, List.set_cons_zero, List.set_cons_succ, i64_w, i32_w]
                                                            rfl
                                                          refine one_ (i := 16) (N := some 72) #[true, true, true, true, true, true, true, true, true, true, true, true, true, true, true, true, true, false, true, true, false, false, true, true, false, false, true, true, false, false, false, true, true, false, false, false] rfl rfl (one_of HT_.out (by kernel_rfl)) (by decide) (fun K hK => ?_)
                                                          refine goes_ Try.func33 (by kernel_rfl) rfl #[.int .u32 ((rd_T39 l0_2 x5_2).f2)] (by rfl) rfl rfl (by (try simp only [List.map_toArray, List.map_cons, List.map_nil]); first | done | rfl | (simp only [List.length_drop, List.length_take]; rfl)) ?_
                                                          with_reducible refine (ferryref13_w.calls k2 ((rd_T39 l0_2 x5_2).f2) t161 _ A58.out).mono ?_
                                                          rintro e w78 ⟨rfl, hb⟩
                                                          refine ⟨_, rfl, ?_⟩
                                                          have n0_ := Aside0.mk (blk_below (g := gb141) (o := .cells #[.bool a0_0, .int .u32 a0_1, .slice (some ad156) l0_2.length c0_2] 26 (0, 0)) (by (with_reducible repeat (first | refine blk_drewN ?_ _ | refine blk_drew ?_ | refine blk_alloc ?_ _)); exact BK141.out) hb)
                                                          have n1_ := Aside0.mk (blk_below (g := gb157) (o := .cells #[.int .i64 ((rd_T39 l0_2 x5_2).f0), .int .u32 ((rd_T39 l0_2 x5_2).f1), .int .u32 ((rd_T39 l0_2 x5_2).f2), .int .u32 ((rd_T39 l0_2 x5_2).f3), .int .u32 ((rd_T39 l0_2 x5_2).f4), .int .i64 ((rd_T39 l0_2 x5_2).f5), .int .u32 ((rd_T39 l0_2 x5_2).f6)] 39 (0, 0)) (by (with_reducible repeat (first | refine blk_drewN ?_ _ | refine blk_drew ?_ | refine blk_alloc ?_ _)); exact BK157.out) hb)
                                                          have n2_ := Aside0.mk (below_step (by repeat (first | (with_reducible first | exact HB.out | apply below_alloc | apply pw_below_drewN | apply below_drew1 | refine below_set ?_ GE141.out | refine below_set ?_ GE157.out) | exact HB.out)) hb)
                                                          clear BK141
                                                          clear BK157
                                                          clear HB
                                                          have BK141 := n0_
                                                          have BK157 := n1_
                                                          have HB := n2_
                                                          clear n0_ n1_ n2_
                                                          (try clear hb)
                                                          (try clear hb2)
                                                          (try clear hk)
                                                          (try clear hi)
                                                          refine hK.out _ _ ⟨(blk_cell BK157.out 0).trans rfl, (blk_cell BK157.out 1).trans rfl, (blk_cell BK157.out 2).trans rfl, (blk_cell BK157.out 3).trans rfl, (blk_cell BK157.out 4).trans rfl, (blk_cell BK157.out 5).trans rfl, (blk_cell BK157.out 6).trans rfl⟩ (fun hHeld => ?_)
                                                          clear hK K
                                                          refine norm_ (a' := ?_) ?_ ?_
                                                          rotate_left
                                                          · show Act.put _ (some 72) _ = _
                                                            simp only [Act.put, List.setIfInBounds_toArray, List.set_cons_zero, List.set_cons_succ, i64_w, i32_w]
                                                            rfl
                                                          refine pure_ (i := 17) (N := some 73) (v := ?_) (a' := ?_) #[true, true, true, true, true, true, true, true, true, true, true, true, true, true, true, true, true, true, true, true, false, false, true, true, false, false, true, true, false, false, false, true, true, false, false, false] rfl rfl (any_of HT_.out (by kernel_rfl)) (fun _ _ _ h => h) (Or.inl ⟨by rfl, ?_⟩) ?_ ?_
                                                          rotate_left
                                                          · intro w'
                                                            go_simp
                                                            with_reducible rfl
                                                          rotate_left
                                                          · simp only [Act.put, List.setIfInBounds_toArray, List.set_cons_zero, List.set_cons_succ, i64_w, i32_w]
                                                            rfl
                                                          refine one_ (i := 20) (N := some 76) #[true, true, true, true, true, true, true, true, true, true, true, true, true, true, true, true, true, true, true, true, true, false, true, true, false, false, true, true, false, false, false, true, true, false, false, false] rfl rfl (one_of HT_.out (by kernel_rfl)) (by decide) (fun K hK => ?_)
                                                          refine goes_ Try.func33 (by kernel_rfl) rfl #[.int .u32 ((rd_T39 l0_2 x5_2).f3)] (by rfl) rfl rfl (by (try simp only [List.map_toArray, List.map_cons, List.map_nil]); first | done | rfl | (simp only [List.length_drop, List.length_take]; rfl)) ?_
                                                          with_reducible refine (ferryref13_w.calls k2 ((rd_T39 l0_2 x5_2).f3) t162 _ A60.out).mono ?_
                                                          rintro e w79 ⟨rfl, hb⟩
                                                          refine ⟨_, rfl, ?_⟩
                                                          have n0_ := Aside0.mk (blk_below (g := gb141) (o := .cells #[.bool a0_0, .int .u32 a0_1, .slice (some ad156) l0_2.length c0_2] 26 (0, 0)) (by (with_reducible repeat (first | refine blk_drewN ?_ _ | refine blk_drew ?_ | refine blk_alloc ?_ _)); exact BK141.out) hb)
                                                          have n1_ := Aside0.mk (blk_below (g := gb157) (o := .cells #[.int .i64 ((rd_T39 l0_2 x5_2).f0), .int .u32 ((rd_T39 l0_2 x5_2).f1), .int .u32 ((rd_T39 l0_2 x5_2).f2), .int .u32 ((rd_T39 l0_2 x5_2).f3), .int .u32 ((rd_T39 l0_2 x5_2).f4), .int .i64 ((rd_T39 l0_2 x5_2).f5), .int .u32 ((rd_T39 l0_2 x5_2).f6)] 39 (0, 0)) (by (with_reducible repeat (first | refine blk_drewN ?_ _ | refine blk_drew ?_ | refine blk_alloc ?_ _)); exact BK157.out) hb)
                                                          have n2_ := Aside0.mk (below_step (by repeat (first | (with_reducible first | exact HB.out | apply below_alloc | apply pw_below_drewN | apply below_drew1 | refine below_set ?_ GE141.out | refine below_set ?_ GE157.out) | exact HB.out)) hb)
                                                          clear BK141
                                                          clear BK157
                                                          clear HB
                                                          have BK141 := n0_
                                                          have BK157 := n1_
                                                          have HB := n2_
                                                          clear n0_ n1_ n2_
                                                          (try clear hb)
                                                          (try clear hb2)
                                                          (try clear hk)
                                                          (try clear hi)
                                                          refine hK.out _ _ ⟨(blk_cell BK157.out 0).trans rfl, (blk_cell BK157.out 1).trans rfl, (blk_cell BK157.out 2).trans rfl, (blk_cell BK157.out 3).trans rfl, (blk_cell BK157.out 4).trans rfl, (blk_cell BK157.out 5).trans rfl, (blk_cell BK157.out 6).trans rfl⟩ (fun hHeld => ?_)
                                                          clear hK K
                                                          refine norm_ (a' := ?_) ?_ ?_
                                                          rotate_left
                                                          · show Act.put _ (some 76) _ = _
                                                            simp only [Act.put, List.setIfInBounds_toArray, List.set_cons_zero, List.set_cons_succ, i64_w, i32_w]
                                                            rfl
                                                          refine pure_ (i := 21) (N := some 77) (v := ?_) (a' := ?_) #[true, true, true, true, true, true, true, true, true, true, true, true, true, true, true, true, true, true, true, true, true, true, true, true, false, false, true, true, false, false, false, true, true, false, false, false] rfl rfl (any_of HT_.out (by kernel_rfl)) (fun _ _ _ h => h) (Or.inl ⟨by rfl, ?_⟩) ?_ ?_
                                                          rotate_left
                                                          · intro w'
                                                            go_simp
                                                            with_reducible rfl
                                                          rotate_left
                                                          · simp only [Act.put, List.setIfInBounds_toArray, List.set_cons_zero, List.set_cons_succ, i64_w, i32_w]
                                                            rfl
                                                          refine one_ (i := 24) (N := some 80) #[true, true, true, true, true, true, true, true, true, true, true, true, true, true, true, true, true, true, true, true, true, true, true, true, true, false, true, true, false, false, false, true, true, false, false, false] rfl rfl (one_of HT_.out (by kernel_rfl)) (by decide) (fun K hK => ?_)
                                                          refine goes_ Try.func33 (by kernel_rfl) rfl #[.int .u32 ((rd_T39 l0_2 x5_2).f4)] (by rfl) rfl rfl (by (try simp only [List.map_toArray, List.map_cons, List.map_nil]); first | done | rfl | (simp only [List.length_drop, List.length_take]; rfl)) ?_
                                                          with_reducible refine (ferryref13_w.calls k2 ((rd_T39 l0_2 x5_2).f4) t163 _ A62.out).mono ?_
                                                          rintro e w80 ⟨rfl, hb⟩
                                                          refine ⟨_, rfl, ?_⟩
                                                          have n0_ := Aside0.mk (blk_below (g := gb141) (o := .cells #[.bool a0_0, .int .u32 a0_1, .slice (some ad156) l0_2.length c0_2] 26 (0, 0)) (by (with_reducible repeat (first | refine blk_drewN ?_ _ | refine blk_drew ?_ | refine blk_alloc ?_ _)); exact BK141.out) hb)
                                                          have n1_ := Aside0.mk (blk_below (g := gb157) (o := .cells #[.int .i64 ((rd_T39 l0_2 x5_2).f0), .int .u32 ((rd_T39 l0_2 x5_2).f1), .int .u32 ((rd_T39 l0_2 x5_2).f2), .int .u32 ((rd_T39 l0_2 x5_2).f3), .int .u32 ((rd_T39 l0_2 x5_2).f4), .int .i64 ((rd_T39 l0_2 x5_2).f5), .int .u32 ((rd_T39 l0_2 x5_2).f6)] 39 (0, 0)) (by (with_reducible repeat (first | refine blk_drewN ?_ _ | refine blk_drew ?_ | refine blk_alloc ?_ _)); exact BK157.out) hb)
                                                          have n2_ := Aside0.mk (below_step (by repeat (first | (with_reducible first | exact HB.out | apply below_alloc | apply pw_below_drewN | apply below_drew1 | refine below_set ?_ GE141.out | refine below_set ?_ GE157.out) | exact HB.out)) hb)
                                                          clear BK141
                                                          clear BK157
                                                          clear HB
                                                          have BK141 := n0_
                                                          have BK157 := n1_
                                                          have HB := n2_
                                                          clear n0_ n1_ n2_
                                                          (try clear hb)
                                                          (try clear hb2)
                                                          (try clear hk)
                                                          (try clear hi)
                                                          refine hK.out _ _ ⟨(blk_cell BK157.out 0).trans rfl, (blk_cell BK157.out 1).trans rfl, (blk_cell BK157.out 2).trans rfl, (blk_cell BK157.out 3).trans rfl, (blk_cell BK157.out 4).trans rfl, (blk_cell BK157.out 5).trans rfl, (blk_cell BK157.out 6).trans rfl⟩ (fun hHeld => ?_)
                                                          clear hK K
                                                          refine norm_ (a' := ?_) ?_ ?_
                                                          rotate_left
                                                          · show Act.put _ (some 80) _ = _
                                                            simp only [Act.put, List.setIfInBounds_toArray, List.set_cons_zero, List.set_cons_succ, i64_w, i32_w]
                                                            rfl
                                                          refine pure_ (i := 25) (N := some 81) (v := ?_) (a' := ?_) #[true, true, true, true, true, true, true, true, true, true, true, true, true, true, true, true, true, true, true, true, true, true, true, true, true, true, true, true, false, false, false, true, true, false, false, false] rfl rfl (any_of HT_.out (by kernel_rfl)) (fun _ _ _ h => h) (Or.inl ⟨by rfl, ?_⟩) ?_ ?_
                                                          rotate_left
                                                          · intro w'
                                                            go_simp
                                                            with_reducible rfl
                                                          rotate_left
                                                          · simp only [Act.put, List.setIfInBounds_toArray, List.set_cons_zero, List.set_cons_succ, i64_w, i32_w]
                                                            rfl
                                                          refine one_ (i := 28) (N := some 84) #[true, true, true, true, true, true, true, true, true, true, true, true, true, true, true, true, true, true, true, true, true, true, true, true, true, true, true, true, true, false, false, true, true, false, false, false] rfl rfl (one_of HT_.out (by kernel_rfl)) (by decide) (fun K hK => ?_)
                                                          refine goes_ Try.func34 (by kernel_rfl) rfl #[.int .i64 ((rd_T39 l0_2 x5_2).f5)] (by rfl) rfl rfl (by (try simp only [List.map_toArray, List.map_cons, List.map_nil]); first | done | rfl | (simp only [List.length_drop, List.length_take]; rfl)) ?_
                                                          with_reducible refine (ferryref13_flagsOf.calls k2 ((rd_T39 l0_2 x5_2).f5) t164 _ A64.out).mono ?_
                                                          rintro e w' ⟨rfl, ⟨nd, rfl⟩⟩
                                                          refine ⟨_, rfl, ?_⟩
                                                          refine hK.out _ _ ⟨(blk_cell BK157.out 0).trans rfl, (blk_cell BK157.out 1).trans rfl, (blk_cell BK157.out 2).trans rfl, (blk_cell BK157.out 3).trans rfl, (blk_cell BK157.out 4).trans rfl, (blk_cell BK157.out 5).trans rfl, (blk_cell BK157.out 6).trans rfl⟩ (fun hHeld => ?_)
                                                          clear hK K
                                                          refine norm_ (a' := ?_) ?_ ?_
                                                          rotate_left
                                                          · show Act.put _ (some 84) _ = _
                                                            simp only [Act.put, List.setIfInBounds_toArray, List.set_cons_zero, List.set_cons_succ, i64_w, i32_w]
                                                            rfl
                                                          refine one_ (i := 29) (N := some 85) #[true, true, true, true, true, true, true, true, true, true, true, true, true, true, true, true, true, true, true, true, true, true, true, true, true, true, true, true, true, true, false, true, true, false, false, false] rfl rfl (one_of HT_.out (by kernel_rfl)) (by decide) (fun K hK => ?_)
                                                          refine goes_ Try.func33 (by kernel_rfl) rfl #[.int .u32 t164] (by rfl) rfl rfl (by (try simp only [List.map_toArray, List.map_cons, List.map_nil]); first | done | rfl | (simp only [List.length_drop, List.length_take]; rfl)) ?_
                                                          with_reducible refine (ferryref13_w.calls k2 t164 t165 _ A65.out).mono ?_
                                                          rintro e w81 ⟨rfl, hb⟩
                                                          refine ⟨_, rfl, ?_⟩
                                                          have n0_ := Aside0.mk (blk_below (g := gb141) (o := .cells #[.bool a0_0, .int .u32 a0_1, .slice (some ad156) l0_2.length c0_2] 26 (0, 0)) (by (with_reducible repeat (first | refine blk_drewN ?_ _ | refine blk_drew ?_ | refine blk_alloc ?_ _)); exact BK141.out) hb)
                                                          have n1_ := Aside0.mk (blk_below (g := gb157) (o := .cells #[.int .i64 ((rd_T39 l0_2 x5_2).f0), .int .u32 ((rd_T39 l0_2 x5_2).f1), .int .u32 ((rd_T39 l0_2 x5_2).f2), .int .u32 ((rd_T39 l0_2 x5_2).f3), .int .u32 ((rd_T39 l0_2 x5_2).f4), .int .i64 ((rd_T39 l0_2 x5_2).f5), .int .u32 ((rd_T39 l0_2 x5_2).f6)] 39 (0, 0)) (by (with_reducible repeat (first | refine blk_drewN ?_ _ | refine blk_drew ?_ | refine blk_alloc ?_ _)); exact BK157.out) hb)
                                                          have n2_ := Aside0.mk (below_step (by repeat (first | (with_reducible first | exact HB.out | apply below_alloc | apply pw_below_drewN | apply below_drew1 | refine below_set ?_ GE141.out | refine below_set ?_ GE157.out) | exact HB.out)) hb)
                                                          clear BK141
                                                          clear BK157
                                                          clear HB
                                                          have BK141 := n0_
                                                          have BK157 := n1_
                                                          have HB := n2_
                                                          clear n0_ n1_ n2_
                                                          (try clear hb)
                                                          (try clear hb2)
                                                          (try clear hk)
                                                          (try clear hi)
                                                          refine hK.out _ _ ⟨(blk_cell BK157.out 0).trans rfl, (blk_cell BK157.out 1).trans rfl, (blk_cell BK157.out 2).trans rfl, (blk_cell BK157.out 3).trans rfl, (blk_cell BK157.out 4).trans rfl, (blk_cell BK157.out 5).trans rfl, (blk_cell BK157.out 6).trans rfl⟩ (fun hHeld => ?_)
                                                          clear hK K
                                                          refine norm_ (a' := ?_) ?_ ?_
                                                          rotate_left
                                                          · show Act.put _ (some 85) _ = _
                                                            simp only [Act.put, List.setIfInBounds_toArray, List.set_cons_zero, List.set_cons_succ, i64_w, i32_w]
                                                            rfl
                                                          refine pure_ (i := 30) (N := some 86) (v := ?_) (a' := ?_) #[true, true, true, true, true, true, true, true, true, true, true, true, true, true, true, true, true, true, true, true, true, true, true, true, true, true, true, true, true, true, true, true, true, false, false, false] rfl rfl (any_of HT_.out (by kernel_rfl)) (fun _ _ _ h => h) (Or.inl ⟨by rfl, ?_⟩) ?_ ?_
                                                          rotate_left
                                                          · intro w'
                                                            go_simp
                                                            with_reducible rfl
                                                          rotate_left
                                                          · simp only [Act.put, List.setIfInBounds_toArray, List.set_cons_zero, List.set_cons_succ, i64_w, i32_w]
                                                            rfl
                                                          refine one_ (i := 33) (N := some 89) #[true, true, true, true, true, true, true, true, true, true, true, true, true, true, true, true, true, true, true, true, true, true, true, true, true, true, true, true, true, true, true, true, true, true, false, false] rfl rfl (one_of HT_.out (by kernel_rfl)) (by decide) (fun K hK => ?_)
                                                          refine goes_ Try.func33 (by kernel_rfl) rfl #[.int .u32 ((rd_T39 l0_2 x5_2).f6)] (by rfl) rfl rfl (by (try simp only [List.map_toArray, List.map_cons, List.map_nil]); first | done | rfl | (simp only [List.length_drop, List.length_take]; rfl)) ?_
                                                          with_reducible refine (ferryref13_w.calls k2 ((rd_T39 l0_2 x5_2).f6) t166 _ A67.out).mono ?_
                                                          rintro e w82 ⟨rfl, hb⟩
                                                          refine ⟨_, rfl, ?_⟩
                                                          have n0_ := Aside0.mk (blk_below (g := gb141) (o := .cells #[.bool a0_0, .int .u32 a0_1, .slice (some ad156) l0_2.length c0_2] 26 (0, 0)) (by (with_reducible repeat (first | refine blk_drewN ?_ _ | refine blk_drew ?_ | refine blk_alloc ?_ _)); exact BK141.out) hb)
                                                          have n1_ := Aside0.mk (blk_below (g := gb157) (o := .cells #[.int .i64 ((rd_T39 l0_2 x5_2).f0), .int .u32 ((rd_T39 l0_2 x5_2).f1), .int .u32 ((rd_T39 l0_2 x5_2).f2), .int .u32 ((rd_T39 l0_2 x5_2).f3), .int .u32 ((rd_T39 l0_2 x5_2).f4), .int .i64 ((rd_T39 l0_2 x5_2).f5), .int .u32 ((rd_T39 l0_2 x5_2).f6)] 39 (0, 0)) (by (with_reducible repeat (first | refine blk_drewN ?_ _ | refine blk_drew ?_ | refine blk_alloc ?_ _)); exact BK157.out) hb)
                                                          have n2_ := Aside0.mk (below_step (by repeat (first | (with_reducible first | exact HB.out | apply below_alloc | apply pw_below_drewN | apply below_drew1 | refine below_set ?_ GE141.out | refine below_set ?_ GE157.out) | exact HB.out)) hb)
                                                          clear BK141
                                                          clear BK157
                                                          clear HB
                                                          have BK141 := n0_
                                                          have BK157 := n1_
                                                          have HB := n2_
                                                          clear n0_ n1_ n2_
                                                          (try clear hb)
                                                          (try clear hb2)
                                                          (try clear hk)
                                                          (try clear hi)
                                                          refine hK.out _ _ ⟨(blk_cell BK157.out 0).trans rfl, (blk_cell BK157.out 1).trans rfl, (blk_cell BK157.out 2).trans rfl, (blk_cell BK157.out 3).trans rfl, (blk_cell BK157.out 4).trans rfl, (blk_cell BK157.out 5).trans rfl, (blk_cell BK157.out 6).trans rfl⟩ (fun hHeld => ?_)
                                                          clear hK K
                                                          refine norm_ (a' := ?_) ?_ ?_
                                                          rotate_left
                                                          · show Act.put _ (some 89) _ = _
                                                            simp only [Act.put, List.setIfInBounds_toArray, List.set_cons_zero, List.set_cons_succ, i64_w, i32_w]
                                                            rfl
                                                          refine pure_ (i := 34) (N := some 90) (v := ?_) (a' := ?_) #[true, true, true, true, true, true, true, true, true, true, true, true, true, true, true, true, true, true, true, true, true, true, true, true, true, true, true, true, true, true, true, true, true, true, true, false] rfl rfl (any_of HT_.out (by kernel_rfl)) (fun _ _ _ h => h) (Or.inl ⟨by rfl, ?_⟩) ?_ ?_
                                                          rotate_left
                                                          · intro w'
                                                            go_simp
                                                            with_reducible rfl
                                                          rotate_left
                                                          · simp only [Act.put, List.setIfInBounds_toArray, List.set_cons_zero, List.set_cons_succ, i64_w, i32_w]
                                                            rfl
                                                          refine pure_ (i := 35) (N := some 4) (v := ?_) (a' := ?_) #[true, true, true, true, true, true, true, true, true, true, true, true, true, true, true, true, true, true, true, true, true, true, true, true, true, true, true, true, true, true, true, true, true, true, true, true] rfl rfl (any_of HT_.out (by kernel_rfl)) (fun _ _ _ h => h) (Or.inl ⟨by rfl, ?_⟩) ?_ ?_
                                                          rotate_left
                                                          · intro w'
                                                            go_simp
                                                            with_reducible rfl
                                                          rotate_left
                                                          · simp only [Act.put, List.setIfInBounds_toArray, List.set_cons_zero, List.set_cons_succ, i64_w, i32_w]
                                                            rfl
                                                          refine done_ (done_of HT_.out (by kernel_rfl)) ?_
                                                          try go_wp2
                                                          go_roundg k2
                                                          case measure => have := HJ3.out; have := HK2.out; omega
                                                          case rel => exact ⟨((((((((x4_2 ++ t158) ++ t159) ++ t160) ++ t161) ++ t162) ++ t163) ++ t165) ++ t166), (wrap64 (x5_2 + 1)), (by first | rfl | (simp; done) | (simp [*]; done)), (by first | rfl | (simp; done) | (simp [*]; done)), H', ⟨by have := HJ3.out; have := HK2.out; omega⟩, ⟨by (with_reducible repeat (first | refine blk_drewN ?_ _ | refine blk_drew ?_ | refine blk_alloc ?_ _)); exact BK141.out⟩, ⟨by repeat (first | (with_reducible first | exact HB.out | apply below_alloc | apply pw_below_drewN | apply below_drew1 | refine below_set ?_ GE141.out | refine below_set ?_ GE157.out) | exact HB.out)⟩⟩
                                                        · rw [if_neg c68] at H
                                                          exact absurd H (by simp)
                                                      · rw [if_neg c66] at H
                                                        exact absurd H (by simp)
                                                    · rw [if_neg c63] at H
                                                      exact absurd H (by simp)
                                                  · rw [if_neg c61] at H
                                                    exact absurd H (by simp)
                                                · rw [if_neg c59] at H
                                                  exact absurd H (by simp)
                                              · rw [if_neg c57] at H
                                                exact absurd H (by simp)
                                            · rw [if_neg c55] at H
                                              exact absurd H (by simp)
                                          · rw [if_neg c53] at H
                                            exact absurd H (by simp)
                                        · rw [if_neg c51] at H
                                          exact absurd H (by simp)
                                      · rw [if_neg c50] at H
                                        have c50b0 : decide (x5_2 < (l0_2.length : Int)) = false := decide_eq_false c50
                                        clear c50
                                        obtain rfl := Option.some.inj H
                                        have hcz83_0 : wr.cell? ⟨gb141, 0, none⟩ = some (.bool a0_0) := (blk_cell BK141.out 0).trans rfl
                                        have hcz83_1 : wr.cell? ⟨gb141, 1, none⟩ = some (.int .u32 a0_1) := (blk_cell BK141.out 1).trans rfl
                                        have hcz83_2 : wr.cell? ⟨gb141, 2, none⟩ = some (.slice A0_2 l0_2.length c0_2) := (blk_cell BK141.out 2).trans rfl
                                        have hfz83_0 := blk_frozen BK141.out 0
                                        have hfz83_1 := blk_frozen BK141.out 1
                                        have hfz83_2 := blk_frozen BK141.out 2
                                        go_wp2
                                        go_ret
                                        exact ⟨by first | rfl | (simp [errW_none, errW_some] <;> rfl) | (simp [*, errW_none, errW_some] <;> rfl), by repeat (first | (with_reducible first | exact HB.out | apply below_alloc | apply pw_below_drewN | apply below_drew1 | refine below_set ?_ GE141.out) | exact HB.out)⟩
                                · rw [if_neg c35] at H
                                  exact absurd H (by simp)
                              · rw [if_neg c33] at H
                                exact absurd H (by simp)
                            · rw [if_neg c31] at H
                              exact absurd H (by simp)
                          · rw [if_neg c29] at H
                            exact absurd H (by simp)
                        · rw [if_neg c27] at H
                          exact absurd H (by simp)
                      · rw [if_neg c25] at H
                        exact absurd H (by simp)
                    · rw [if_neg c23] at H
                      exact absurd H (by simp)
                  · rw [if_neg c21] at H
                    exact absurd H (by simp)
                · rw [if_neg c19] at H
                  exact absurd H (by simp)
              · rw [if_neg c17] at H
                exact absurd H (by simp)
            · rw [if_neg c15] at H
              exact absurd H (by simp)
          · rw [if_neg c13] at H
            exact absurd H (by simp)
        · rw [if_neg c11] at H
          exact absurd H (by simp)
  · replace c3 := Bool.eq_false_iff.mpr c3
    subst c3
    have H1 : (some (⟨#[]⟩ : ByteArray)) = some r := by rw [if_neg (show ¬ (false = true) by decide)] at H; exact H
    clear H
    have H := H1
    clear H1
    obtain rfl := Option.some.inj H
    go_enter Try.func16, Try.ntmps16
    go_wp2_with (first | ((with_reducible refine gate_dst (N := 1) rfl ?_); refine box_event ?hg (N := 1) ?hd (cs := #[.bool a0_0, .int .u32 a0_1, .slice A0_2 l0_2.length c0_2]) (t := 26) ?hr ?_; (case hd => rfl); (case hg => rfl); (case hr => first | (go_simp; done) | (go_simp; rfl)); intro gb141 hg w84 hbox hb; have n0_ := Aside0.mk (below_step (by repeat (first | (with_reducible first | exact HB.out | apply below_alloc | apply pw_below_drewN | apply below_drew1) | exact HB.out)) hb); have n1_ := Aside0.mk (hbox); have n2_ := Aside0.mk ((by rw [hg]; exact (below_size (by repeat (first | (with_reducible first | exact HB.out | apply below_alloc | apply pw_below_drewN | apply below_drew1) | exact HB.out))) : w.heap.size ≤ gb141)); have n3_ := Aside0.mk ((by rw [hg]; exact (below_size (by repeat (first | (with_reducible first | exact HB.out | apply below_alloc | apply pw_below_drewN | apply below_drew1) | exact HB.out))) : w.heap.size ≤ gb141)); clear HB; have HB := n0_; have BK141 := n1_; have GW141 := n2_; have GE141 := n3_; clear n0_ n1_ n2_ n3_; clear hb hbox hg; have hcz85_0 : w84.cell? ⟨gb141, 0, none⟩ = some (.bool a0_0) := (blk_cell BK141.out 0).trans rfl; have hcz85_1 : w84.cell? ⟨gb141, 1, none⟩ = some (.int .u32 a0_1) := (blk_cell BK141.out 1).trans rfl; have hcz85_2 : w84.cell? ⟨gb141, 2, none⟩ = some (.slice A0_2 l0_2.length c0_2) := (blk_cell BK141.out 2).trans rfl; have hfz85_0 := blk_frozen BK141.out 0; have hfz85_1 := blk_frozen BK141.out 1; have hfz85_2 := blk_frozen BK141.out 2) | ((with_reducible refine gate_callee (f := 14) rfl ?_); refine goesL_ (some 8) rfl rfl Try.func14 (by kernel_rfl) rfl #[.agg #[.bool a0_0, .int .u32 a0_1, .slice A0_2 l0_2.length c0_2]] rfl (by (try simp only [List.map_toArray, List.map_cons, List.map_nil]); first | done | rfl | (simp only [List.length_drop, List.length_take]; rfl)) ?_; (with_reducible refine (ferryref13_Fit.calls k a0_0 a0_1 _ _ l0_2 false _ ?side1 ?side2 A2.out).mono ?_); (case side1 => repeat (first | exact (Kd.C_below HR0_2.out HB.out) | (with_reducible refine Kd.C_alloc ?_ _) | (with_reducible refine Kd.C_drewN ?_ _) | (with_reducible refine Kd.C_drew ?_))); (case side2 => exact HC0_2.out); rintro e w86 ⟨rfl, hb⟩; refine ⟨_, rfl, ?_⟩; have n0_ := Aside0.mk (blk_below (g := gb141) (o := .cells #[.bool a0_0, .int .u32 a0_1, .slice A0_2 l0_2.length c0_2] 26 (0, 0)) (by (with_reducible repeat (first | refine blk_drewN ?_ _ | refine blk_drew ?_ | refine blk_alloc ?_ _)); exact BK141.out) hb); have n1_ := Aside0.mk (below_step (by repeat (first | (with_reducible first | exact HB.out | apply below_alloc | apply pw_below_drewN | apply below_drew1 | refine below_set ?_ GE141.out) | exact HB.out)) hb); clear BK141; clear HB; have BK141 := n0_; have HB := n1_; clear n0_ n1_; (try clear hb); (try clear hb2); (try clear hk); (try clear hi)))
    go_ret
    exact ⟨by first | rfl | (simp [errW_none, errW_some] <;> rfl) | (simp [*, errW_none, errW_some] <;> rfl), by repeat (first | (with_reducible first | exact HB.out | apply below_alloc | apply pw_below_drewN | apply below_drew1 | refine below_set ?_ GE141.out) | exact HB.out)⟩

end Go.Proofs.Ytonoabknmmecnaa.F
end
