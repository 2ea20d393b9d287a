import Derived.Below
import Derived.Deep.Draws
import Derived.Deep.AppendLies
import Derived.Maps.AppendAt
import Derived.OwnWalk
import Derived.Laws.BytesArg
import Derived.Laws.MakeOwn
import Derived.Laws.OwnMore
import Derived.Deep.OwnRows
import Derived.Tactics
import Derived.Lib.ConvBytes
import Derived.Laws.Slices
import Derived.WalkKit
import Derived.KernelRfl
import Derived.RowKit3
import Derived.Deep.LoopGhost
import Derived.Deep.QuietTactic
import Derived.BigQuiet
import Derived.WideLaws
import Derived.Deep.DeepCutAuto
import Derived.Deep.CutBlock
import Derived.Deep.RegionHeld3
import Derived.Laws.Rows
import Derived.Lib.AppendStr
import Derived.ArgAppend
import Derived.Laws.IdiomCopy
import Derived.RowKit
import Derived.OrdersHeld
import Derived.Laws.BitsLemmas
import Derived.Laws.StructEq
import Derived.OwnWalkIn
import Derived.ProofKit
import Derived.Lib.Hide
import Derived.Shelf.RegionOpen
import Derived.Shelf.Abstract
import Derived.Lib.SliceRun
import Derived.WalkSmall
import Derived.Laws.ResultCell
import Derived.Shelf.Spec.SlicesInsertGrow
import Derived.Test.YtlmmipdgedfboaaZF0
import Derived.Test.YtlmmipdgedfboaaYA0Sorted
import Derived.Test.YtlmmipdgedfboaaYA1Slc
import Derived.Test.YtlmmipdgedfboaaYA3HHost0
import Derived.Test.YtlmmipdgedfboaaYA6
import Derived.Test.YtlmmipdgedfboaaYA8HHost4
import Derived.Test.YtlmmipdgedfboaaYA9
import Derived.Test.YtlmmipdgedfboaaYB23HHost1
import Derived.Test.YtlmmipdgedfboaaYB25HHost9
section
namespace Go.Proofs.Ytlmmipdgedfboaa.F
open Go.RowKit Go.Shelf Go.Proofs.YtlmmipdgedfboaaW.PrintWords Go.Proofs.YtlmmipdgedfboaaW.PrintLast Go.Proofs.YtlmmipdgedfboaaW.PrintMore
set_option linter.unusedVariables false
set_option linter.unusedSimpArgs false
set_option maxHeartbeats 4000000 in
theorem fit_1.calls (x : S53) (w : World) : Calls Try.prog 49 #[.agg #[.int .u64 x.f0, .int .i64 x.f1]] w fun e w' => e = .returned (.int .u64 x.f0) ∧ Below w.heap.size w w' := by
  have TB := Lib.hid ((Below.refl _ w).alloc (Nat.le_refl _) (.cells #[.int .u64 x.f0, .int .i64 x.f1] 53))
  go_enter Try.func49, Try.ntmps49
  go_wp2
  go_ret
  exact ⟨rfl, TB.out⟩
set_option maxHeartbeats 4000000 in
theorem fit_2.calls (x : S55) (w : World) : Calls Try.prog 51 #[.agg #[.int .u64 x.f0, .int .u64 x.f1]] w fun e w' => e = .returned (.int .u64 x.f0) ∧ Below w.heap.size w w' := by
  have TB := Lib.hid ((Below.refl _ w).alloc (Nat.le_refl _) (.cells #[.int .u64 x.f0, .int .u64 x.f1] 55))
  go_enter Try.func51, Try.ntmps51
  go_wp2
  go_ret
  exact ⟨rfl, TB.out⟩
def fitMap (m : S53) : Bool := decide (m.f0 ≥ 1125899906842624) || (Go.bits .andNot .i64 m.f1 7 != 0)
def fitCell (l0_0 : List S53) (c : S55) : Bool := (!(has mpK (IntKind.u64.wrap (Int.tdiv c.f0 16384)) l0_0) || (Go.bits .and .u64 c.f0 7 != 0)) || (c.f1 == 0)
def fitB (l0_0 : List S53) (l0_1 : List S55) : Bool := risesB mpK l0_0 && (risesB clK l0_1 && (decide (l0_0.length ≤ 64) && (decide (l0_1.length ≤ 131072) && (!(l0_0.any fitMap) && !(l0_1.any (fitCell l0_0))))))
set_option maxHeartbeats 8000000 in
set_option maxRecDepth 100000 in
theorem fit_3.calls (A0_0 : Option Addr) (c0_0 : Nat) (l0_0 : List S53) (A0_1 : Option Addr) (c0_1 : Nat) (l0_1 : List S55) (x : S55) (b : Nat) (w : World) (hr0_0 : Kd.C k53 w A0_0 l0_0.length l0_0) (hc0_0 : l0_0.length ≤ c0_0) (hr0_1 : Kd.C k55 w A0_1 l0_1.length l0_1) (hc0_1 : l0_1.length ≤ c0_1) (hb : w.heap[b]? = some (.cells #[.slice A0_0 l0_0.length c0_0, .slice A0_1 l0_1.length c0_1] 25 (0, 0))) (hl : l0_0.length ≤ 1000000) (hs : risesB mpK l0_0 = true) :
    Calls Try.prog 54 #[.agg #[.int .u64 x.f0, .int .u64 x.f1], .pointer (some ⟨b, 0, none⟩)] w fun e w' => e = .returned (.bool (fitCell l0_0 x)) ∧ Below w.heap.size w w' := by
  have TB := Lib.hid ((Below.refl _ w).alloc (Nat.le_refl _) (.cells #[.int .u64 x.f0, .int .u64 x.f1] 55))
  have NX := Lib.hid (blk_new w (.cells #[.int .u64 x.f0, .int .u64 x.f1] 55))
  have BB := Lib.hid ((TB.out.block _ (sblk_lt hb)).trans hb)
  have k0 := (sblk_cell BB.out 0).trans rfl
  have k1 := (sblk_cell BB.out 1).trans rfl
  have AT := Lib.hid (host_mapAt.calls A0_0 c0_0 l0_0 A0_1 c0_1 l0_1 (IntKind.u64.wrap (Int.tdiv x.f0 16384)) _ _ _ (Kd.C_below hr0_0 TB.out) hc0_0 (Kd.C_below hr0_1 TB.out) hc0_1 (map_at_some l0_1 _ hl hs))
  have hu := Try.underlying25
  have hu2 := Try.underlying55
  clear hb
  generalize hF : fitCell l0_0 x = r
  have EF := Lib.hid hF
  clear hF
  go_enter Try.func54, Try.ntmps54
  go_wp2_with (fail)
  refine AT.out.mono ?_
  rintro e w2 ⟨rfl, hb2⟩
  have N2 := Lib.hid ((hb2.block _ (sblk_lt NX.out)).trans NX.out)
  have B2 := Lib.hid (TB.out.trans (hb2.mono TB.out.size))
  clear hb2 k0 k1 AT BB
  have x0 := (sblk_cell N2.out 0).trans rfl
  have x1 := (sblk_cell N2.out 1).trans rfl
  have EF2 := EF.out
  unfold fitCell at EF2
  cases hh : has mpK (IntKind.u64.wrap (Int.tdiv x.f0 16384)) l0_0
  · rw [hh] at EF2
    simp at EF2
    subst EF2
    go_wp2
    go_ret
    exact ⟨rfl, B2.out⟩
  · rw [hh] at EF2
    cases h7 : (Go.bits .and .u64 x.f0 7 != 0)
    · rw [h7] at EF2
      simp only [Bool.not_true, Bool.false_or] at EF2
      subst EF2
      go_wp2
      go_ret
      exact ⟨rfl, B2.out⟩
    · rw [h7] at EF2
      simp at EF2
      subst EF2
      go_wp2
      go_ret
      exact ⟨rfl, B2.out⟩
-- HAND fn=ferry/host.Fit ; rounds=0 ; making=1 ; laid=0
def host_Fit.f (l0_0 : List S53) (l0_1 : List S55) : Option Bool := if l0_0.length ≤ 1000000 ∧ l0_1.length ≤ 1000000 then some (fitB l0_0 l0_1) else none
set_option maxHeartbeats 8000000 in
set_option maxRecDepth 100000 in
theorem host_Fit.calls (A0_0 : Option Addr) (c0_0 : Nat) (l0_0 : List S53) (A0_1 : Option Addr) (c0_1 : Nat) (l0_1 : List S55) (r : Bool) (w : World) (hr0_0 : Kd.C k53 w A0_0 l0_0.length l0_0) (hc0_0 : l0_0.length ≤ c0_0) (hr0_1 : Kd.C k55 w A0_1 l0_1.length l0_1) (hc0_1 : l0_1.length ≤ c0_1) (h : host_Fit.f l0_0 l0_1 = some r) :
    Calls Try.prog 21 #[.agg #[.slice A0_0 l0_0.length c0_0, .slice A0_1 l0_1.length c0_1]] w fun e w' => e = .returned (.bool r) ∧ Below w.heap.size w w' := by
  unfold host_Fit.f at h
  split at h
  rotate_left
  · cases h
  rename_i hl
  have EF := Lib.hid (Option.some.inj h)
  clear h
  have HM := Lib.hid hr0_0
  have HC := Lib.hid hr0_1
  have TB := Lib.hid ((Below.refl _ w).alloc (Nat.le_refl _) (.cells #[.slice A0_0 l0_0.length c0_0, .slice A0_1 l0_1.length c0_1] 25))
  have BB := Lib.hid (blk_new w (.cells #[.slice A0_0 l0_0.length c0_0, .slice A0_1 l0_1.length c0_1] 25))
  have k0 := (sblk_cell BB.out 0).trans rfl
  have hu := Try.underlying25
  have hu2 := Try.underlying53
  clear hr0_0 hr0_1
  go_enter Try.func21, Try.ntmps21
  go_wp2_with (fail)
  refine (mp_rises.calls 49 fit_1.calls (fun _ _ => rfl) A0_0 c0_0 l0_0 _ (Kd.C_below HM.out TB.out) hc0_0 hl.1).mono ?_
  rintro e w1 ⟨rfl, hb1⟩
  have B1 := Lib.hid (TB.out.trans (hb1.mono TB.out.size))
  have K1 := Lib.hid ((hb1.block _ (sblk_lt BB.out)).trans BB.out)
  clear hb1 k0 TB BB
  have k1 := (sblk_cell K1.out 1).trans rfl
  go_wp2_with (fail)
  refine (cl_rises.calls 51 fit_2.calls (fun _ _ => rfl) A0_1 c0_1 l0_1 _ (Kd.C_below HC.out B1.out) hc0_1 hl.2).mono ?_
  rintro e w2 ⟨rfl, hb2⟩
  have B2 := Lib.hid (B1.out.trans (hb2.mono B1.out.size))
  have K2 := Lib.hid ((hb2.block _ (sblk_lt K1.out)).trans K1.out)
  clear hb2 k1 B1 K1
  have k0 := (sblk_cell K2.out 0).trans rfl
  have k1 := (sblk_cell K2.out 1).trans rfl
  have EF2 := EF.out
  unfold fitB at EF2
  cases hr1 : risesB mpK l0_0
  · rw [hr1] at EF2
    simp at EF2
    subst EF2
    go_wp2
    go_ret
    exact ⟨rfl, B2.out⟩
  rw [hr1, Bool.true_and] at EF2
  cases hr2 : risesB clK l0_1
  · rw [hr2] at EF2
    simp at EF2
    subst EF2
    go_wp2
    go_ret
    exact ⟨rfl, B2.out⟩
  rw [hr2, Bool.true_and] at EF2
  by_cases h64 : l0_0.length ≤ 64
  rotate_left
  · rw [decide_eq_false h64] at EF2
    simp at EF2
    subst EF2
    go_wp2
    go_ret
    exact ⟨rfl, B2.out⟩
  rw [decide_eq_true h64, Bool.true_and] at EF2
  by_cases h131 : l0_1.length ≤ 131072
  rotate_left
  · rw [decide_eq_false h131] at EF2
    simp at EF2
    subst EF2
    go_wp2
    go_ret
    exact ⟨rfl, B2.out⟩
  rw [decide_eq_true h131, Bool.true_and] at EF2
  have EA := Lib.hid EF2
  clear EF2 EF
  go_wp2
  have HFR := Lib.hid hr1
  clear hr1 hr2
  go_loopw [34] (fun t wr => ∃ k : Nat, t = .int .i64 k ∧ k ≤ l0_0.length ∧ Hid (∀ j (hj : j < l0_0.length), j < k → fitMap l0_0[j] = false) ∧ Hid (Below w.heap.size w wr) ∧ Hid (wr.heap[w.heap.size]? = some (.cells #[.slice A0_0 l0_0.length c0_0, .slice A0_1 l0_1.length c0_1] 25 (0, 0)))) (fun t _ => l0_0.length - (intOf t).toNat)
  case atStart => exact ⟨0, rfl, Nat.zero_le _, Lib.hid (fun j _ hj => by omega), B2, K2⟩
  case round =>
    obtain ⟨k, rfl, hk, hn, HB, HK⟩ := hrel
    clear k0 k1
    by_cases hlt : k < l0_0.length
    · obtain ⟨ad, rfl, c0, c1⟩ := at_T53 (Kd.C_below HM.out HB.out) (k : Int) (by omega) (by omega)
      rw [mp_getR hlt, Int.toNat_natCast] at c0 c1
      have YES := Lib.hid (fun (h : fitMap l0_0[k] = false) (j : Nat) (hj : j < l0_0.length) (hji : j < k + 1) => by
        rcases Nat.lt_or_ge j k with h1 | h1
        · exact hn.out j hj h1
        · obtain rfl : j = k := by omega
          exact h)
      have NO := Lib.hid (fun (h : fitMap l0_0[k] = true) => List.any_eq_true.2 ⟨l0_0[k], List.getElem_mem hlt, h⟩)
      generalize l0_0[k] = x at c0 c1 YES NO
      have BP := Lib.hid (fun w => host_badProt.calls x.f1 _ w rfl)
      have X0 := Lib.hid (HB.out.trans (((Below.refl _ wr).alloc (Nat.le_refl _) (.cells #[.int .u64 x.f0, .int .i64 x.f1] 53)).mono HB.out.size))
      have N0 := Lib.hid (blk_new wr (.cells #[.int .u64 x.f0, .int .i64 x.f1] 53))
      have K0 := Lib.hid (blk_alloc HK.out (.cells #[.int .u64 x.f0, .int .i64 x.f1] 53))
      by_cases hge : x.f0 ≥ 1125899906842624
      · have hf := NO.out (by unfold fitMap; rw [decide_eq_true hge]; rfl)
        have hgb : decide (x.f0 ≥ 1125899906842624) = true := decide_eq_true hge
        obtain rfl : r = false := by rw [← EA.out, hf]; rfl
        clear YES NO hf
        go_wp2_with (fail)
        go_ret
        exact ⟨rfl, X0.out⟩
      · have hgb : decide (x.f0 ≥ 1125899906842624) = false := decide_eq_false hge
        cases hbad : (Go.bits .andNot .i64 x.f1 7 != 0)
        · have hy := Lib.hid (YES.out (by unfold fitMap; rw [hgb, hbad]; rfl))
          rw [hbad] at BP
          clear YES NO
          go_wp2_with (go_at_call 52; (with_reducible refine (BP.out _).mono ?_); rintro ex w5 ⟨rfl, ⟨nd, rfl⟩⟩)
          have hb := pw_below_drewN (Below.refl (wr.alloc (.cells #[.int .u64 x.f0, .int .i64 x.f1] 53)).heap.size (wr.alloc (.cells #[.int .u64 x.f0, .int .i64 x.f1] 53))) nd
          exact ⟨⟨k + 1, by go_num, hlt, hy, Lib.hid (pw_below_drewN X0.out nd), Lib.hid ((hb.block _ (sblk_lt K0.out)).trans K0.out)⟩, by simp [intOf]; omega⟩
        · have hf := NO.out (by unfold fitMap; rw [hgb, hbad]; rfl)
          obtain rfl : r = false := by rw [← EA.out, hf]; rfl
          rw [hbad] at BP
          clear YES NO hf
          go_wp2_with (go_at_call 52; (with_reducible refine (BP.out _).mono ?_); rintro ex w5 ⟨rfl, ⟨nd, rfl⟩⟩)
          go_ret
          exact ⟨rfl, pw_below_drewN X0.out nd⟩
    · have hany : l0_0.any fitMap = false := List.any_eq_false.2 (fun x hx => by
        obtain ⟨j, hj, rfl⟩ := List.getElem_of_mem hx
        rw [hn.out j hj (by omega)]
        simp)
      obtain rfl : r = !(l0_1.any (fitCell l0_0)) := by rw [← EA.out, hany]; rfl
      clear hn hany
      have k1 := (sblk_cell HK.out 1).trans rfl
      go_wp2_with (fail)
      refine (cl_any.calls (fitCell l0_0) 54 #[.pointer (some ⟨w.heap.size, 0, none⟩)] (fun _ _ => rfl) A0_1 c0_1 l0_1 _ (Kd.C_below HC.out HB.out) hc0_1 hl.2 (fun x W hb => fit_3.calls A0_0 c0_0 l0_0 A0_1 c0_1 l0_1 x _ W (Kd.C_below HM.out (HB.out.trans (hb.mono HB.out.size))) hc0_0 (Kd.C_below HC.out (HB.out.trans (hb.mono HB.out.size))) hc0_1 ((hb.block _ (sblk_lt HK.out)).trans HK.out) hl.1 HFR.out)).mono ?_
      rintro e w9 ⟨rfl, hb9⟩
      have HB9 := Lib.hid (HB.out.trans (hb9.mono HB.out.size))
      clear hb9 k1
      go_wp2
      go_ret
      exact ⟨rfl, HB9.out⟩
end Go.Proofs.Ytlmmipdgedfboaa.F
end
