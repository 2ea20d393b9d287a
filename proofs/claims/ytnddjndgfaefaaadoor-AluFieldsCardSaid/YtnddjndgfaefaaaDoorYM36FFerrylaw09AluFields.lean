import Derived.Below
import Derived.Deep.Draws
import Derived.Deep.AppendLies
import Derived.Maps.AppendAt
import Derived.OwnWalk
import Derived.Laws.BytesArg
import Derived.Laws.MakeOwn
import Derived.Laws.OwnMore
import Derived.Deep.OwnRows
import Derived.Tactics
import Derived.Lib.ConvBytes
import Derived.Laws.Slices
import Derived.WalkKit
import Derived.KernelRfl
import Derived.RowKit3
import Derived.Deep.LoopGhost
import Derived.Deep.QuietTactic
import Derived.BigQuiet
import Derived.WideLaws
import Derived.Deep.DeepCutAuto
import Derived.Deep.CutBlock
import Derived.Deep.RegionHeld3
import Derived.Laws.Rows
import Derived.Lib.AppendStr
import Derived.ArgAppend
import Derived.Laws.IdiomCopy
import Derived.RowKit
import Derived.OrdersHeld
import Derived.Laws.BitsLemmas
import Derived.Laws.StructEq
import Derived.WalkLawsBesides
import Derived.Shelf.Abstract
import Derived.Shelf.RegionOpen
import Derived.RangeFuncRecord
import Derived.OwnWalkIn
import Derived.ProofKit
import Derived.Lib.Hide
import Derived.Shelf.Small.Bits
import Derived.Shelf.LaysM
import Derived.Shelf.Strings.Fields
import Derived.Shelf.Strings.Replace
import Derived.Shelf.Strings.SplitShaped
import Derived.Lib.LaidTab
import Derived.Maps.OwnOps
import Derived.WalkSmall
import Derived.Laws.ResultCell
import Derived.Deep.RegionWith
import Derived.Defers
import Derived.Recover
import Derived.Tactics2
import Derived.Test.YtnddjndgfaefaaaDoorZF0
import Derived.Test.YtnddjndgfaefaaaDoorYA0
import Derived.Test.YtnddjndgfaefaaaDoorYA16HAluDo
import Derived.Test.YtnddjndgfaefaaaDoorYA18FFerrylaw09Awake
section
namespace Go.Proofs.YtnddjndgfaefaaaDoor.F
open Go.RowKit Go.Proofs.YtnddjndgfaefaaaDoorW.PrintWords Go.Proofs.YtnddjndgfaefaaaDoorW.PrintLast Go.Proofs.YtnddjndgfaefaaaDoorW.PrintMore
attribute [local go_sem] max2_int min2_int max_two min_two max_three min_three max_four min_four
set_option linter.unusedVariables false
set_option linter.unusedSimpArgs false

mutual
def ferrylaw09_AluFields.j0 : Nat → Int → Int → Int → Int → Option (Bool)
  | 0, _, _, _, _ => none
  | k + 1, x0, x1, x9, x10 => (alu_Do.f (⟨#[105, 110, 115]⟩ : ByteArray) 0 0 x10 x9 0 x0 x1).bind fun bt188 => ((alu_Do.f (⟨#[101, 120, 116]⟩ : ByteArray) 0 0 (wrap64 (x10 - x9)) x9 0 bt188.1 0).bind fun bt190 => ((alu_Do.f (⟨#[101, 120, 116]⟩ : ByteArray) 0 0 (wrap64 (x10 - x9)) 0 0 x0 0).bind fun bt192 => (if bt188.2 = true then (if bt190.2 = true then (if bt192.2 = true then (ferrylaw09_AluFields.j1 k x1 x9 x10 bt188.1 (bt190.1 != bt192.1)) else (ferrylaw09_AluFields.j1 k x1 x9 x10 bt188.1 true)) else (ferrylaw09_AluFields.j1 k x1 x9 x10 bt188.1 true)) else (ferrylaw09_AluFields.j1 k x1 x9 x10 bt188.1 true))))
def ferrylaw09_AluFields.j1 : Nat → Int → Int → Int → Int → Bool → Option (Bool)
  | 0, _, _, _, _, _ => none
  | k + 1, x1, x9, x10, x11, x71 => if x71 = true then (some false) else (ferrylaw09_AluFields.l0 k x1 x9 x10 x11 0)
def ferrylaw09_AluFields.l0 : Nat → Int → Int → Int → Int → Int → Option (Bool)
  | 0, _, _, _, _, _ => none
  | k + 1, x1, x9, x10, x11, x72 => if x72 < 32 then (if x72 < x9 then (if 0 ≤ x72 then (if (Go.bits .and .u32 (shr .u32 x11 x72) 1) = (Go.bits .and .u32 (shr .u32 x1 x72) 1) then (ferrylaw09_AluFields.l0 k x1 x9 x10 x11 (wrap64 (x72 + 1))) else (some false)) else (none)) else (if x72 > x10 then (if 0 ≤ x72 then (if (Go.bits .and .u32 (shr .u32 x11 x72) 1) = (Go.bits .and .u32 (shr .u32 x1 x72) 1) then (ferrylaw09_AluFields.l0 k x1 x9 x10 x11 (wrap64 (x72 + 1))) else (some false)) else (none)) else (ferrylaw09_AluFields.l0 k x1 x9 x10 x11 (wrap64 (x72 + 1))))) else ((ferrylaw09_awake.f).bind fun t194 => (some t194))
end
def ferrylaw09_AluFields.f (k : Nat) (a0 : Int) (a1 : Int) (a2 : Int) (a3 : Int) : Option (Bool) := if (wrap64 (Int.tmod a2 32)) > (wrap64 (Int.tmod a3 32)) then (ferrylaw09_AluFields.j0 k a0 a1 (wrap64 (Int.tmod a3 32)) (wrap64 (Int.tmod a2 32))) else (ferrylaw09_AluFields.j0 k a0 a1 (wrap64 (Int.tmod a2 32)) (wrap64 (Int.tmod a3 32)))
set_option maxHeartbeats 8000000 in
set_option maxRecDepth 100000 in
theorem ferrylaw09_AluFields.calls (k : Nat) (a0 : Int) (a1 : Int) (a2 : Int) (a3 : Int) (r : Bool) (w : World) (hL : Laid w) (h : ferrylaw09_AluFields.f k a0 a1 a2 a3 = some r) :
    Calls Tryd.prog 4 #[.int .u32 a0, .int .u32 a1, .int .u8 a2, .int .u8 a3] w fun e w' => e = .returned (.bool r) ∧ Below w.heap.size w w' := by
  have hu29 := Tryd.underlying29
  have HB := Aside0.mk (Below.refl w.heap.size w)
  have H : (if (wrap64 (Int.tmod a2 32)) > (wrap64 (Int.tmod a3 32)) then (ferrylaw09_AluFields.j0 k a0 a1 (wrap64 (Int.tmod a3 32)) (wrap64 (Int.tmod a2 32))) else (ferrylaw09_AluFields.j0 k a0 a1 (wrap64 (Int.tmod a2 32)) (wrap64 (Int.tmod a3 32)))) = some r := h
  clear h
  have HC5 := Aside0.mk H
  clear H
  go_enter Tryd.func4, Tryd.ntmps4
  go_upto_if 26 with (fail)
  repeat (go_quiet (fail); go_upto_if 26 with (fail))
  go_cut [9, 10] (fun v9 v10 wc => ∃ (kq : Nat) (x9_4 : Int) (x10_4 : Int), v9 = .int .i64 x9_4 ∧ v10 = .int .i64 x10_4 ∧ Aside0 (ferrylaw09_AluFields.j0 kq a0 a1 x9_4 x10_4 = some r) ∧ Aside0 (kq ≤ k) ∧ Aside0 (Below w.heap.size w wc))
  case first =>
    have H := HC5.out
    clear HC5
    by_cases c6 : (wrap64 (Int.tmod a2 32)) > (wrap64 (Int.tmod a3 32))
    · rw [if_pos c6] at H
      have c6b0 : decide ((wrap64 (Int.tmod a3 32)) < (wrap64 (Int.tmod a2 32))) = true := decide_eq_true c6
      clear c6
      (first | rw [c6b0] | (simp only [i64_w, i32_w]; rw [c6b0]) | skip)
      have H' := Aside0.mk H
      clear H
      go_wp2
      repeat (go_quiet (fail); try go_wp2)
      go_meet
      case rel => exact ⟨_, (wrap64 (Int.tmod a3 32)), (wrap64 (Int.tmod a2 32)), (by first | rfl | (simp; done) | (simp [*]; done)), (by first | rfl | (simp; done) | (simp [*]; done)), H', ⟨by first | omega | exact Nat.le_refl _⟩, ⟨by repeat (first | (with_reducible first | exact HB.out | apply below_alloc | apply pw_below_drewN | apply below_drew1) | exact HB.out)⟩⟩
    · rw [if_neg c6] at H
      have c6b0 : decide ((wrap64 (Int.tmod a3 32)) < (wrap64 (Int.tmod a2 32))) = false := decide_eq_false c6
      clear c6
      (first | rw [c6b0] | (simp only [i64_w, i32_w]; rw [c6b0]) | skip)
      have H' := Aside0.mk H
      clear H
      go_wp2
      repeat (go_quiet (fail); try go_wp2)
      go_meet
      case rel => exact ⟨_, (wrap64 (Int.tmod a2 32)), (wrap64 (Int.tmod a3 32)), (by first | rfl | (simp; done) | (simp [*]; done)), (by first | rfl | (simp; done) | (simp [*]; done)), H', ⟨by first | omega | exact Nat.le_refl _⟩, ⟨by repeat (first | (with_reducible first | exact HB.out | apply below_alloc | apply pw_below_drewN | apply below_drew1) | exact HB.out)⟩⟩
  case rest =>
    clear HC5
    try clear p2
    try clear c4
    try clear c6
    try clear c6b0
    try clear p6
    obtain ⟨kq, x9_4, x10_4, rfl, rfl, HA, HJ4, HB⟩ := hcut
    cases kq with
    | zero => exact absurd HA.out (by simp [ferrylaw09_AluFields.j0])
    | succ kj4 =>
      have H := HA.out
      clear HA
      simp only [ferrylaw09_AluFields.j0] at H
      replace H := Option.bind_eq_some_iff.mp H
      obtain ⟨⟨t188, t189⟩, A70, H⟩ := H
      replace H : ((alu_Do.f (⟨#[101, 120, 116]⟩ : ByteArray) 0 0 (wrap64 (x10_4 - x9_4)) x9_4 0 t188 0).bind fun bt190 => ((alu_Do.f (⟨#[101, 120, 116]⟩ : ByteArray) 0 0 (wrap64 (x10_4 - x9_4)) 0 0 a0 0).bind fun bt192 => (if t189 = true then (if bt190.2 = true then (if bt192.2 = true then (ferrylaw09_AluFields.j1 kj4 a1 x9_4 x10_4 t188 (bt190.1 != bt192.1)) else (ferrylaw09_AluFields.j1 kj4 a1 x9_4 x10_4 t188 true)) else (ferrylaw09_AluFields.j1 kj4 a1 x9_4 x10_4 t188 true)) else (ferrylaw09_AluFields.j1 kj4 a1 x9_4 x10_4 t188 true)))) = some r := H
      have A7 := Aside0.mk A70
      clear A70
      replace H := Option.bind_eq_some_iff.mp H
      obtain ⟨⟨t190, t191⟩, A80, H⟩ := H
      replace H : ((alu_Do.f (⟨#[101, 120, 116]⟩ : ByteArray) 0 0 (wrap64 (x10_4 - x9_4)) 0 0 a0 0).bind fun bt192 => (if t189 = true then (if t191 = true then (if bt192.2 = true then (ferrylaw09_AluFields.j1 kj4 a1 x9_4 x10_4 t188 (t190 != bt192.1)) else (ferrylaw09_AluFields.j1 kj4 a1 x9_4 x10_4 t188 true)) else (ferrylaw09_AluFields.j1 kj4 a1 x9_4 x10_4 t188 true)) else (ferrylaw09_AluFields.j1 kj4 a1 x9_4 x10_4 t188 true))) = some r := H
      have A8 := Aside0.mk A80
      clear A80
      replace H := Option.bind_eq_some_iff.mp H
      obtain ⟨⟨t192, t193⟩, A90, H⟩ := H
      replace H : (if t189 = true then (if t191 = true then (if t193 = true then (ferrylaw09_AluFields.j1 kj4 a1 x9_4 x10_4 t188 (t190 != t192)) else (ferrylaw09_AluFields.j1 kj4 a1 x9_4 x10_4 t188 true)) else (ferrylaw09_AluFields.j1 kj4 a1 x9_4 x10_4 t188 true)) else (ferrylaw09_AluFields.j1 kj4 a1 x9_4 x10_4 t188 true)) = some r := H
      have A9 := Aside0.mk A90
      clear A90
      have HC10 := Aside0.mk H
      clear H
      go_upto_region 7 with (first | (go_at_call 10; (with_reducible refine (alu_Do.calls (⟨#[105, 110, 115]⟩ : ByteArray) 0 0 x10_4 x9_4 0 a0 a1 t188 t189 _ ?side1 A7.out).mono ?_); (case side1 => first | with_reducible exact hL | exact Laid.below hL (by repeat (first | (with_reducible first | exact HB.out | apply below_alloc | apply pw_below_drewN | apply below_drew1) | exact HB.out))); rintro e w11 ⟨rfl, hb⟩; have n0_ := Aside0.mk (below_step (by repeat (first | (with_reducible first | exact HB.out | apply below_alloc | apply pw_below_drewN | apply below_drew1) | exact HB.out)) hb); clear HB; have HB := n0_; clear n0_; (try clear hb); (try clear hb2); (try clear hk); (try clear hi)) | (go_at_call 10; (with_reducible refine (alu_Do.calls (⟨#[101, 120, 116]⟩ : ByteArray) 0 0 (wrap64 (x10_4 - x9_4)) x9_4 0 t188 0 t190 t191 _ ?side1 A8.out).mono ?_); (case side1 => first | with_reducible exact hL | exact Laid.below hL (by repeat (first | (with_reducible first | exact HB.out | apply below_alloc | apply pw_below_drewN | apply below_drew1) | exact HB.out))); rintro e w12 ⟨rfl, hb⟩; have n0_ := Aside0.mk (below_step (by repeat (first | (with_reducible first | exact HB.out | apply below_alloc | apply pw_below_drewN | apply below_drew1) | exact HB.out)) hb); clear HB; have HB := n0_; clear n0_; (try clear hb); (try clear hb2); (try clear hk); (try clear hi)) | (go_at_call 10; (with_reducible refine (alu_Do.calls (⟨#[101, 120, 116]⟩ : ByteArray) 0 0 (wrap64 (x10_4 - x9_4)) 0 0 a0 0 t192 t193 _ ?side1 A9.out).mono ?_); (case side1 => first | with_reducible exact hL | exact Laid.below hL (by repeat (first | (with_reducible first | exact HB.out | apply below_alloc | apply pw_below_drewN | apply below_drew1) | exact HB.out))); rintro e w13 ⟨rfl, hb⟩; have n0_ := Aside0.mk (below_step (by repeat (first | (with_reducible first | exact HB.out | apply below_alloc | apply pw_below_drewN | apply below_drew1) | exact HB.out)) hb); clear HB; have HB := n0_; clear n0_; (try clear hb); (try clear hb2); (try clear hk); (try clear hi)))
      repeat (go_quiet (first | (go_at_call 10; (with_reducible refine (alu_Do.calls (⟨#[105, 110, 115]⟩ : ByteArray) 0 0 x10_4 x9_4 0 a0 a1 t188 t189 _ ?side1 A7.out).mono ?_); (case side1 => first | with_reducible exact hL | exact Laid.below hL (by repeat (first | (with_reducible first | exact HB.out | apply below_alloc | apply pw_below_drewN | apply below_drew1) | exact HB.out))); rintro e w11 ⟨rfl, hb⟩; have n0_ := Aside0.mk (below_step (by repeat (first | (with_reducible first | exact HB.out | apply below_alloc | apply pw_below_drewN | apply below_drew1) | exact HB.out)) hb); clear HB; have HB := n0_; clear n0_; (try clear hb); (try clear hb2); (try clear hk); (try clear hi)) | (go_at_call 10; (with_reducible refine (alu_Do.calls (⟨#[101, 120, 116]⟩ : ByteArray) 0 0 (wrap64 (x10_4 - x9_4)) x9_4 0 t188 0 t190 t191 _ ?side1 A8.out).mono ?_); (case side1 => first | with_reducible exact hL | exact Laid.below hL (by repeat (first | (with_reducible first | exact HB.out | apply below_alloc | apply pw_below_drewN | apply below_drew1) | exact HB.out))); rintro e w12 ⟨rfl, hb⟩; have n0_ := Aside0.mk (below_step (by repeat (first | (with_reducible first | exact HB.out | apply below_alloc | apply pw_below_drewN | apply below_drew1) | exact HB.out)) hb); clear HB; have HB := n0_; clear n0_; (try clear hb); (try clear hb2); (try clear hk); (try clear hi)) | (go_at_call 10; (with_reducible refine (alu_Do.calls (⟨#[101, 120, 116]⟩ : ByteArray) 0 0 (wrap64 (x10_4 - x9_4)) 0 0 a0 0 t192 t193 _ ?side1 A9.out).mono ?_); (case side1 => first | with_reducible exact hL | exact Laid.below hL (by repeat (first | (with_reducible first | exact HB.out | apply below_alloc | apply pw_below_drewN | apply below_drew1) | exact HB.out))); rintro e w13 ⟨rfl, hb⟩; have n0_ := Aside0.mk (below_step (by repeat (first | (with_reducible first | exact HB.out | apply below_alloc | apply pw_below_drewN | apply below_drew1) | exact HB.out)) hb); clear HB; have HB := n0_; clear n0_; (try clear hb); (try clear hb2); (try clear hk); (try clear hi))); go_upto_region 7 with (first | (go_at_call 10; (with_reducible refine (alu_Do.calls (⟨#[105, 110, 115]⟩ : ByteArray) 0 0 x10_4 x9_4 0 a0 a1 t188 t189 _ ?side1 A7.out).mono ?_); (case side1 => first | with_reducible exact hL | exact Laid.below hL (by repeat (first | (with_reducible first | exact HB.out | apply below_alloc | apply pw_below_drewN | apply below_drew1) | exact HB.out))); rintro e w11 ⟨rfl, hb⟩; have n0_ := Aside0.mk (below_step (by repeat (first | (with_reducible first | exact HB.out | apply below_alloc | apply pw_below_drewN | apply below_drew1) | exact HB.out)) hb); clear HB; have HB := n0_; clear n0_; (try clear hb); (try clear hb2); (try clear hk); (try clear hi)) | (go_at_call 10; (with_reducible refine (alu_Do.calls (⟨#[101, 120, 116]⟩ : ByteArray) 0 0 (wrap64 (x10_4 - x9_4)) x9_4 0 t188 0 t190 t191 _ ?side1 A8.out).mono ?_); (case side1 => first | with_reducible exact hL | exact Laid.below hL (by repeat (first | (with_reducible first | exact HB.out | apply below_alloc | apply pw_below_drewN | apply below_drew1) | exact HB.out))); rintro e w12 ⟨rfl, hb⟩; have n0_ := Aside0.mk (below_step (by repeat (first | (with_reducible first | exact HB.out | apply below_alloc | apply pw_below_drewN | apply below_drew1) | exact HB.out)) hb); clear HB; have HB := n0_; clear n0_; (try clear hb); (try clear hb2); (try clear hk); (try clear hi)) | (go_at_call 10; (with_reducible refine (alu_Do.calls (⟨#[101, 120, 116]⟩ : ByteArray) 0 0 (wrap64 (x10_4 - x9_4)) 0 0 a0 0 t192 t193 _ ?side1 A9.out).mono ?_); (case side1 => first | with_reducible exact hL | exact Laid.below hL (by repeat (first | (with_reducible first | exact HB.out | apply below_alloc | apply pw_below_drewN | apply below_drew1) | exact HB.out))); rintro e w13 ⟨rfl, hb⟩; have n0_ := Aside0.mk (below_step (by repeat (first | (with_reducible first | exact HB.out | apply below_alloc | apply pw_below_drewN | apply below_drew1) | exact HB.out)) hb); clear HB; have HB := n0_; clear n0_; (try clear hb); (try clear hb2); (try clear hk); (try clear hi))))
      (try simp only [Act.put, List.setIfInBounds_toArray, List.set_cons_zero, List.set_cons_succ])
      go_cut [71] (fun v71 wc => ∃ (kq : Nat) (x71_9 : Bool), v71 = .bool x71_9 ∧ Aside0 (ferrylaw09_AluFields.j1 kq a1 x9_4 x10_4 t188 x71_9 = some r) ∧ Aside0 (kq ≤ kj4) ∧ Aside0 (Below w.heap.size w wc))
      case first =>
        have H := HC10.out
        clear HC10
        by_cases c14 : t189 = true
        · subst c14
          have H1 : (if t191 = true then (if t193 = true then (ferrylaw09_AluFields.j1 kj4 a1 x9_4 x10_4 t188 (t190 != t192)) else (ferrylaw09_AluFields.j1 kj4 a1 x9_4 x10_4 t188 true)) else (ferrylaw09_AluFields.j1 kj4 a1 x9_4 x10_4 t188 true)) = some r := by rw [if_pos rfl] at H; exact H
          clear H
          have H := H1
          clear H1
          by_cases c15 : t191 = true
          · subst c15
            have H1 : (if t193 = true then (ferrylaw09_AluFields.j1 kj4 a1 x9_4 x10_4 t188 (t190 != t192)) else (ferrylaw09_AluFields.j1 kj4 a1 x9_4 x10_4 t188 true)) = some r := by rw [if_pos rfl] at H; exact H
            clear H
            have H := H1
            clear H1
            by_cases c16 : t193 = true
            · subst c16
              have H1 : (ferrylaw09_AluFields.j1 kj4 a1 x9_4 x10_4 t188 (t190 != t192)) = some r := by rw [if_pos rfl] at H; exact H
              clear H
              have H := H1
              clear H1
              have H' := Aside0.mk H
              clear H
              go_wp2
              repeat (go_quiet (fail); try go_wp2)
              go_meet
              case rel => exact ⟨_, ((t190 != t192)), (by first | rfl | (simp; done) | (simp [*]; done)), H', ⟨by have := HJ4.out; first | omega | exact Nat.le_refl _⟩, ⟨by repeat (first | (with_reducible first | exact HB.out | apply below_alloc | apply pw_below_drewN | apply below_drew1) | exact HB.out)⟩⟩
            · replace c16 := Bool.eq_false_iff.mpr c16
              subst c16
              have H1 : (ferrylaw09_AluFields.j1 kj4 a1 x9_4 x10_4 t188 true) = some r := by rw [if_neg (show ¬ (false = true) by decide)] at H; exact H
              clear H
              have H := H1
              clear H1
              have H' := Aside0.mk H
              clear H
              go_wp2
              repeat (go_quiet (fail); try go_wp2)
              go_meet
              case rel => exact ⟨_, (true), (by first | rfl | (simp; done) | (simp [*]; done)), H', ⟨by have := HJ4.out; first | omega | exact Nat.le_refl _⟩, ⟨by repeat (first | (with_reducible first | exact HB.out | apply below_alloc | apply pw_below_drewN | apply below_drew1) | exact HB.out)⟩⟩
          · replace c15 := Bool.eq_false_iff.mpr c15
            subst c15
            have H1 : (ferrylaw09_AluFields.j1 kj4 a1 x9_4 x10_4 t188 true) = some r := by rw [if_neg (show ¬ (false = true) by decide)] at H; exact H
            clear H
            have H := H1
            clear H1
            have H' := Aside0.mk H
            clear H
            go_wp2
            repeat (go_quiet (fail); try go_wp2)
            go_meet
            case rel => exact ⟨_, (true), (by first | rfl | (simp; done) | (simp [*]; done)), H', ⟨by have := HJ4.out; first | omega | exact Nat.le_refl _⟩, ⟨by repeat (first | (with_reducible first | exact HB.out | apply below_alloc | apply pw_below_drewN | apply below_drew1) | exact HB.out)⟩⟩
        · replace c14 := Bool.eq_false_iff.mpr c14
          subst c14
          have H1 : (ferrylaw09_AluFields.j1 kj4 a1 x9_4 x10_4 t188 true) = some r := by rw [if_neg (show ¬ (false = true) by decide)] at H; exact H
          clear H
          have H := H1
          clear H1
          have H' := Aside0.mk H
          clear H
          go_wp2
          repeat (go_quiet (fail); try go_wp2)
          go_meet
          case rel => exact ⟨_, (true), (by first | rfl | (simp; done) | (simp [*]; done)), H', ⟨by have := HJ4.out; first | omega | exact Nat.le_refl _⟩, ⟨by repeat (first | (with_reducible first | exact HB.out | apply below_alloc | apply pw_below_drewN | apply below_drew1) | exact HB.out)⟩⟩
      case rest =>
        clear HC10
        try clear c1
        try clear p2
        try clear c4
        try clear c6
        try clear c6b0
        try clear p6
        try clear c14
        try clear c15
        try clear c16
        try clear p2
        try clear p6
        obtain ⟨kq, x71_9, rfl, HA, HJ9, HB⟩ := hcut
        cases kq with
        | zero => exact absurd HA.out (by simp [ferrylaw09_AluFields.j1])
        | succ kj9 =>
          have H := HA.out
          clear HA
          simp only [ferrylaw09_AluFields.j1] at H
          by_cases c17 : x71_9 = true
          · subst c17
            have H1 : (some false) = some r := by rw [if_pos rfl] at H; exact H
            clear H
            have H := H1
            clear H1
            obtain rfl := Option.some.inj H
            go_wp2
            repeat (go_quiet (fail); try go_wp2)
            go_ret
            exact ⟨by first | rfl | (simp [errW_none, errW_some] <;> rfl) | (simp [*, errW_none, errW_some] <;> rfl), by repeat (first | (with_reducible first | exact HB.out | apply below_alloc | apply pw_below_drewN | apply below_drew1) | exact HB.out)⟩
          · replace c17 := Bool.eq_false_iff.mpr c17
            subst c17
            have H1 : (ferrylaw09_AluFields.l0 kj9 a1 x9_4 x10_4 t188 0) = some r := by rw [if_neg (show ¬ (false = true) by decide)] at H; exact H
            clear H
            have H := H1
            clear H1
            have H' := Aside0.mk H
            clear H
            go_wp2
            repeat (go_quiet (fail); try go_wp2)
            go_loopg [72] kj9 (fun kq v72 w' => ∃ (x72_3 : Int), v72 = .int .i64 x72_3 ∧ Aside0 (ferrylaw09_AluFields.l0 kq a1 x9_4 x10_4 t188 x72_3 = some r) ∧ Aside0 (kq ≤ kj9) ∧ Aside0 (Below w.heap.size w w'))
            case atStart => exact ⟨(0), (by first | rfl | (simp; done) | (simp [*]; done)), H', ⟨Nat.le_refl _⟩, ⟨by repeat (first | (with_reducible first | exact HB.out | apply below_alloc | apply pw_below_drewN | apply below_drew1) | exact HB.out)⟩⟩
            case round =>
              clear H'
              try clear c1
              try clear p2
              try clear c4
              try clear c6
              try clear c6b0
              try clear p6
              try clear c14
              try clear c15
              try clear c16
              try clear c17
              try clear p2
              try clear p6
              obtain ⟨x72_3, rfl, HA, HK3, HB⟩ := hrel
              cases gk with
              | zero => exact absurd HA.out (by simp [ferrylaw09_AluFields.l0])
              | succ k3 =>
                have H := HA.out
                clear HA
                simp only [ferrylaw09_AluFields.l0] at H
                by_cases c18 : x72_3 < 32
                · rw [if_pos c18] at H
                  have c18b0 : decide (x72_3 < 32) = true := decide_eq_true c18
                  clear c18
                  by_cases c19 : x72_3 < x9_4
                  · rw [if_pos c19] at H
                    have c19b0 : decide (x72_3 < x9_4) = true := decide_eq_true c19
                    clear c19
                    by_cases c20 : 0 ≤ x72_3
                    · rw [if_pos c20] at H
                      have c20b0 := eq_true c20
                      have c20b1 : decide (0 ≤ x72_3) = true := decide_eq_true c20
                      clear c20
                      obtain ⟨ji21, hji21⟩ : ∃ j_ : Int, (shr .u32 t188 x72_3) = j_ := ⟨_, rfl⟩
                      replace H : (if (Go.bits .and .u32 (ji21) 1) = (Go.bits .and .u32 (shr .u32 a1 x72_3) 1) then (ferrylaw09_AluFields.l0 k3 a1 x9_4 x10_4 t188 (wrap64 (x72_3 + 1))) else (some false)) = some r := by first | (rw [hji21] at H; exact H) | (simp only [hji21] at H ⊢; exact H)
                      have hji21_ : (t188 / 2 ^ min x72_3.toNat 32) = ji21 := hji21
                      have hji21z : x72_3 ≤ 32 → (t188 / 2 ^ x72_3.toNat) = ji21 := shr_small hji21
                      have c22b0 := eq_true (of_decide_eq_true (by first | (with_reducible assumption) | assumption) : 0 ≤ x72_3)
                      obtain ⟨ji23, hji23⟩ : ∃ j_ : Int, (shr .u32 a1 x72_3) = j_ := ⟨_, rfl⟩
                      replace H : (if (Go.bits .and .u32 (ji21) 1) = (Go.bits .and .u32 (ji23) 1) then (ferrylaw09_AluFields.l0 k3 a1 x9_4 x10_4 t188 (wrap64 (x72_3 + 1))) else (some false)) = some r := by first | (rw [hji23] at H; exact H) | (simp only [hji23] at H ⊢; exact H)
                      have hji23_ : (a1 / 2 ^ min x72_3.toNat 32) = ji23 := hji23
                      have hji23z : x72_3 ≤ 32 → (a1 / 2 ^ x72_3.toNat) = ji23 := shr_small hji23
                      by_cases c24 : (Go.bits .and .u32 (ji21) 1) = (Go.bits .and .u32 (ji23) 1)
                      · rw [if_pos c24] at H
                        have c24b0 : ((Go.bits .and .u32 (ji21) 1) == (Go.bits .and .u32 (ji23) 1)) = true := beq_iff_eq.mpr c24
                        have c24b1 : ((Go.bits .and .u32 (ji21) 1) != (Go.bits .and .u32 (ji23) 1)) = false := bne_eq_false_iff_eq.mpr c24
                        clear c24
                        have H' := Aside0.mk H
                        clear H
                        go_wp2
                        repeat (go_quiet (fail); try go_wp2)
                        go_roundg k3
                        case measure => have := HJ4.out; have := HJ9.out; have := HK3.out; omega
                        case rel => exact ⟨(wrap64 (x72_3 + 1)), (by first | rfl | (simp; done) | (simp [*]; done)), H', ⟨by have := HJ4.out; have := HJ9.out; have := HK3.out; omega⟩, ⟨by repeat (first | (with_reducible first | exact HB.out | apply below_alloc | apply pw_below_drewN | apply below_drew1) | exact HB.out)⟩⟩
                      · rw [if_neg c24] at H
                        have c24b0 : ((Go.bits .and .u32 (ji21) 1) == (Go.bits .and .u32 (ji23) 1)) = false := beq_eq_false_iff_ne.mpr c24
                        have c24b1 : ((Go.bits .and .u32 (ji21) 1) != (Go.bits .and .u32 (ji23) 1)) = true := bne_iff_ne.mpr c24
                        obtain rfl := Option.some.inj H
                        go_wp2
                        repeat (go_quiet (fail); try go_wp2)
                        go_ret
                        exact ⟨by first | rfl | (simp [errW_none, errW_some] <;> rfl) | (simp only [← hji21, ← hji23]; first | rfl | (simp [errW_none, errW_some] <;> rfl)) | (simp [*, errW_none, errW_some] <;> rfl), by repeat (first | (with_reducible first | exact HB.out | apply below_alloc | apply pw_below_drewN | apply below_drew1) | exact HB.out)⟩
                    · rw [if_neg c20] at H
                      exact absurd H (by simp)
                  · rw [if_neg c19] at H
                    have c19b0 : decide (x72_3 < x9_4) = false := decide_eq_false c19
                    clear c19
                    by_cases c25 : x72_3 > x10_4
                    · rw [if_pos c25] at H
                      have c25b0 : decide (x10_4 < x72_3) = true := decide_eq_true c25
                      clear c25
                      by_cases c26 : 0 ≤ x72_3
                      · rw [if_pos c26] at H
                        have c26b0 := eq_true c26
                        have c26b1 : decide (0 ≤ x72_3) = true := decide_eq_true c26
                        clear c26
                        obtain ⟨ji27, hji27⟩ : ∃ j_ : Int, (shr .u32 t188 x72_3) = j_ := ⟨_, rfl⟩
                        replace H : (if (Go.bits .and .u32 (ji27) 1) = (Go.bits .and .u32 (shr .u32 a1 x72_3) 1) then (ferrylaw09_AluFields.l0 k3 a1 x9_4 x10_4 t188 (wrap64 (x72_3 + 1))) else (some false)) = some r := by first | (rw [hji27] at H; exact H) | (simp only [hji27] at H ⊢; exact H)
                        have hji27_ : (t188 / 2 ^ min x72_3.toNat 32) = ji27 := hji27
                        have hji27z : x72_3 ≤ 32 → (t188 / 2 ^ x72_3.toNat) = ji27 := shr_small hji27
                        have c28b0 := eq_true (of_decide_eq_true (by first | (with_reducible assumption) | assumption) : 0 ≤ x72_3)
                        obtain ⟨ji29, hji29⟩ : ∃ j_ : Int, (shr .u32 a1 x72_3) = j_ := ⟨_, rfl⟩
                        replace H : (if (Go.bits .and .u32 (ji27) 1) = (Go.bits .and .u32 (ji29) 1) then (ferrylaw09_AluFields.l0 k3 a1 x9_4 x10_4 t188 (wrap64 (x72_3 + 1))) else (some false)) = some r := by first | (rw [hji29] at H; exact H) | (simp only [hji29] at H ⊢; exact H)
                        have hji29_ : (a1 / 2 ^ min x72_3.toNat 32) = ji29 := hji29
                        have hji29z : x72_3 ≤ 32 → (a1 / 2 ^ x72_3.toNat) = ji29 := shr_small hji29
                        by_cases c30 : (Go.bits .and .u32 (ji27) 1) = (Go.bits .and .u32 (ji29) 1)
                        · rw [if_pos c30] at H
                          have c30b0 : ((Go.bits .and .u32 (ji27) 1) == (Go.bits .and .u32 (ji29) 1)) = true := beq_iff_eq.mpr c30
                          have c30b1 : ((Go.bits .and .u32 (ji27) 1) != (Go.bits .and .u32 (ji29) 1)) = false := bne_eq_false_iff_eq.mpr c30
                          clear c30
                          have H' := Aside0.mk H
                          clear H
                          go_wp2
                          repeat (go_quiet (fail); try go_wp2)
                          go_roundg k3
                          case measure => have := HJ4.out; have := HJ9.out; have := HK3.out; omega
                          case rel => exact ⟨(wrap64 (x72_3 + 1)), (by first | rfl | (simp; done) | (simp [*]; done)), H', ⟨by have := HJ4.out; have := HJ9.out; have := HK3.out; omega⟩, ⟨by repeat (first | (with_reducible first | exact HB.out | apply below_alloc | apply pw_below_drewN | apply below_drew1) | exact HB.out)⟩⟩
                        · rw [if_neg c30] at H
                          have c30b0 : ((Go.bits .and .u32 (ji27) 1) == (Go.bits .and .u32 (ji29) 1)) = false := beq_eq_false_iff_ne.mpr c30
                          have c30b1 : ((Go.bits .and .u32 (ji27) 1) != (Go.bits .and .u32 (ji29) 1)) = true := bne_iff_ne.mpr c30
                          obtain rfl := Option.some.inj H
                          go_wp2
                          repeat (go_quiet (fail); try go_wp2)
                          go_ret
                          exact ⟨by first | rfl | (simp [errW_none, errW_some] <;> rfl) | (simp only [← hji27, ← hji29]; first | rfl | (simp [errW_none, errW_some] <;> rfl)) | (simp [*, errW_none, errW_some] <;> rfl), by repeat (first | (with_reducible first | exact HB.out | apply below_alloc | apply pw_below_drewN | apply below_drew1) | exact HB.out)⟩
                      · rw [if_neg c26] at H
                        exact absurd H (by simp)
                    · rw [if_neg c25] at H
                      have c25b0 : decide (x10_4 < x72_3) = false := decide_eq_false c25
                      clear c25
                      have H' := Aside0.mk H
                      clear H
                      go_wp2
                      repeat (go_quiet (fail); try go_wp2)
                      go_roundg k3
                      case measure => have := HJ4.out; have := HJ9.out; have := HK3.out; omega
                      case rel => exact ⟨(wrap64 (x72_3 + 1)), (by first | rfl | (simp; done) | (simp [*]; done)), H', ⟨by have := HJ4.out; have := HJ9.out; have := HK3.out; omega⟩, ⟨by repeat (first | (with_reducible first | exact HB.out | apply below_alloc | apply pw_below_drewN | apply below_drew1) | exact HB.out)⟩⟩
                · rw [if_neg c18] at H
                  have c18b0 : decide (x72_3 < 32) = false := decide_eq_false c18
                  clear c18
                  replace H := Option.bind_eq_some_iff.mp H
                  obtain ⟨t194, A310, H⟩ := H
                  replace H : (some t194) = some r := H
                  have A31 := Aside0.mk A310
                  clear A310
                  obtain rfl := Option.some.inj H
                  go_wp2_with (first | (go_at_call 9; (with_reducible refine (ferrylaw09_awake.calls  t194 _ ?side1 A31.out).mono ?_); (case side1 => first | with_reducible exact hL | exact Laid.below hL (by repeat (first | (with_reducible first | exact HB.out | apply below_alloc | apply pw_below_drewN | apply below_drew1) | exact HB.out))); rintro e w32 ⟨rfl, hb⟩; have n0_ := Aside0.mk (below_step (by repeat (first | (with_reducible first | exact HB.out | apply below_alloc | apply pw_below_drewN | apply below_drew1) | exact HB.out)) hb); clear HB; have HB := n0_; clear n0_; (try clear hb); (try clear hb2); (try clear hk); (try clear hi)))
                  repeat (go_quiet (first | (go_at_call 9; (with_reducible refine (ferrylaw09_awake.calls  t194 _ ?side1 A31.out).mono ?_); (case side1 => first | with_reducible exact hL | exact Laid.below hL (by repeat (first | (with_reducible first | exact HB.out | apply below_alloc | apply pw_below_drewN | apply below_drew1) | exact HB.out))); rintro e w32 ⟨rfl, hb⟩; have n0_ := Aside0.mk (below_step (by repeat (first | (with_reducible first | exact HB.out | apply below_alloc | apply pw_below_drewN | apply below_drew1) | exact HB.out)) hb); clear HB; have HB := n0_; clear n0_; (try clear hb); (try clear hb2); (try clear hk); (try clear hi))); try go_wp2_with (first | (go_at_call 9; (with_reducible refine (ferrylaw09_awake.calls  t194 _ ?side1 A31.out).mono ?_); (case side1 => first | with_reducible exact hL | exact Laid.below hL (by repeat (first | (with_reducible first | exact HB.out | apply below_alloc | apply pw_below_drewN | apply below_drew1) | exact HB.out))); rintro e w32 ⟨rfl, hb⟩; have n0_ := Aside0.mk (below_step (by repeat (first | (with_reducible first | exact HB.out | apply below_alloc | apply pw_below_drewN | apply below_drew1) | exact HB.out)) hb); clear HB; have HB := n0_; clear n0_; (try clear hb); (try clear hb2); (try clear hk); (try clear hi))))
                  go_ret
                  exact ⟨by first | rfl | (simp [errW_none, errW_some] <;> rfl) | (simp [*, errW_none, errW_some] <;> rfl), by repeat (first | (with_reducible first | exact HB.out | apply below_alloc | apply pw_below_drewN | apply below_drew1) | exact HB.out)⟩

end Go.Proofs.YtnddjndgfaefaaaDoor.F
end
