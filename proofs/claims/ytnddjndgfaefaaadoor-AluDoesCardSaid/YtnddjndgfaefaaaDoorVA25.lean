import Derived.Below
import Derived.Deep.Draws
import Derived.Deep.AppendLies
import Derived.Maps.AppendAt
import Derived.OwnWalk
import Derived.Laws.BytesArg
import Derived.Laws.MakeOwn
import Derived.Laws.OwnMore
import Derived.Deep.OwnRows
import Derived.Tactics
import Derived.Lib.ConvBytes
import Derived.Laws.Slices
import Derived.WalkKit
import Derived.KernelRfl
import Derived.RowKit3
import Derived.Deep.LoopGhost
import Derived.Deep.QuietTactic
import Derived.BigQuiet
import Derived.WideLaws
import Derived.Deep.DeepCutAuto
import Derived.Deep.CutBlock
import Derived.Deep.RegionHeld3
import Derived.Laws.Rows
import Derived.Lib.AppendStr
import Derived.ArgAppend
import Derived.Laws.IdiomCopy
import Derived.RowKit
import Derived.OrdersHeld
import Derived.Laws.BitsLemmas
import Derived.Laws.StructEq
import Derived.Test.YtnddjndgfaefaaaDoorVZF0
section
namespace Go.Proofs.YtnddjndgfaefaaaDoor.F
open Go.RowKit Go.Proofs.YtnddjndgfaefaaaDoorW.PrintWords Go.Proofs.YtnddjndgfaefaaaDoorW.PrintLast Go.Proofs.YtnddjndgfaefaaaDoorW.PrintMore
attribute [local go_sem] max2_int min2_int max_two min_two max_three min_three max_four min_four
set_option linter.unusedVariables false
set_option linter.unusedSimpArgs false

def ferryref09_bit.f (a0 : Bool) : Option (Int) := if a0 = true then (some 1) else (some 0)
set_option maxHeartbeats 8000000 in
set_option maxRecDepth 100000 in
theorem ferryref09_bit.calls (a0 : Bool) (r : Int) (w : World) (h : ferryref09_bit.f a0 = some r) :
    Calls Tryd.prog 25 #[.bool a0] w fun e w' => e = .returned (.int .u32 r) ∧ Drawn0 w w' := by
  have H : (if a0 = true then (some 1) else (some 0)) = some r := h
  clear h
  by_cases c2 : a0 = true
  · subst c2
    have H1 : (some 1) = some r := by rw [if_pos rfl] at H; exact H
    clear H
    have H := H1
    clear H1
    obtain rfl := Option.some.inj H
    go_enter Tryd.func25, Tryd.ntmps25
    go_wp2
    go_ret
    exact ⟨by first | rfl | (simp; done) | (simp [*]; done), by repeat (first | exact Drawn0.refl _ | apply Drawn0.step)⟩
  replace c2 := Bool.eq_false_iff.mpr c2
  subst c2
  have H1 : (some 0) = some r := by rw [if_neg (show ¬ (false = true) by decide)] at H; exact H
  clear H
  have H := H1
  clear H1
  obtain rfl := Option.some.inj H
  go_enter Tryd.func25, Tryd.ntmps25
  go_wp2
  go_ret
  exact ⟨by first | rfl | (simp; done) | (simp [*]; done), by repeat (first | exact Drawn0.refl _ | apply Drawn0.step)⟩

end Go.Proofs.YtnddjndgfaefaaaDoor.F
end
section
namespace Go.Proofs.YtnddjndgfaefaaaDoor.F
open Go.RowKit Go.Proofs.YtnddjndgfaefaaaDoorW.PrintWords Go.Proofs.YtnddjndgfaefaaaDoorW.PrintLast Go.Proofs.YtnddjndgfaefaaaDoorW.PrintMore
attribute [local go_sem] max2_int min2_int max_two min_two max_three min_three max_four min_four
set_option linter.unusedVariables false
set_option linter.unusedSimpArgs false

def ferryref09_lead.l0 : Nat → Int → Int → Int → Option (Int)
  | 0, _, _, _ => none
  | k + 1, x0, x1, x5 => if x5 < 32 then (if (Go.bits .and .u32 (shr .u32 x0 ((31 - x5) % 4294967296)) 1) = x1 then (ferryref09_lead.l0 k x0 x1 ((x5 + 1) % 4294967296)) else (some x5)) else (some x5)
def ferryref09_lead.f (k : Nat) (a0 : Int) (a1 : Int) : Option (Int) := ferryref09_lead.l0 k a0 a1 0
set_option maxHeartbeats 8000000 in
set_option maxRecDepth 100000 in
theorem ferryref09_lead.calls (k : Nat) (a0 : Int) (a1 : Int) (r : Int) (w : World) (h : ferryref09_lead.f k a0 a1 = some r) :
    Calls Tryd.prog 66 #[.int .u32 a0, .int .u32 a1] w fun e w' => e = .returned (.int .u32 r) ∧ Drawn0 w w' := by
  have H : (ferryref09_lead.l0 k a0 a1 0) = some r := h
  clear h
  have H' := Aside0.mk H
  clear H
  go_enter Tryd.func66, Tryd.ntmps66
  go_wp2
  go_loopg [5] k (fun kq v5 w' => ∃ (x5_1 : Int), v5 = .int .u32 x5_1 ∧ Aside0 (ferryref09_lead.l0 kq a0 a1 x5_1 = some r) ∧ Aside0 (kq ≤ k) ∧ Drawn0 w w')
  case atStart => exact ⟨(0), (by first | rfl | (simp; done) | (simp [*]; done)), H', ⟨Nat.le_refl _⟩, by repeat (first | exact Drawn0.refl _ | apply Drawn0.step)⟩
  case round =>
    clear H'
    try clear p2
    obtain ⟨x5_1, rfl, HA, HK1, ⟨m1, rfl⟩⟩ := hrel
    cases gk with
    | zero => exact absurd HA.out (by simp [ferryref09_lead.l0])
    | succ k1 =>
      have H := HA.out
      clear HA
      simp only [ferryref09_lead.l0] at H
      by_cases c3 : x5_1 < 32
      · rw [if_pos c3] at H
        have c3b0 : decide (x5_1 < 32) = true := decide_eq_true c3
        clear c3
        obtain ⟨ji4, hji4⟩ : ∃ j_ : Int, (shr .u32 a0 ((31 - x5_1) % 4294967296)) = j_ := ⟨_, rfl⟩
        have nji4 : ((0 : Int) ≤ ((31 - x5_1) % 4294967296)) = True := eq_true (Int.emod_nonneg _ (by decide))
        replace H : (if (Go.bits .and .u32 (ji4) 1) = a1 then (ferryref09_lead.l0 k1 a0 a1 ((x5_1 + 1) % 4294967296)) else (some x5_1)) = some r := by first | (rw [hji4] at H; exact H) | (simp only [hji4] at H ⊢; exact H)
        have hji4_ : (a0 / 2 ^ min ((31 - x5_1) % 4294967296).toNat 32) = ji4 := hji4
        have hji4z : ((31 - x5_1) % 4294967296) ≤ 32 → (a0 / 2 ^ ((31 - x5_1) % 4294967296).toNat) = ji4 := shr_small hji4
        by_cases c5 : (Go.bits .and .u32 (ji4) 1) = a1
        · rw [if_pos c5] at H
          have c5b0 : ((Go.bits .and .u32 (ji4) 1) == a1) = true := beq_iff_eq.mpr c5
          have c5b1 : ((Go.bits .and .u32 (ji4) 1) != a1) = false := bne_eq_false_iff_eq.mpr c5
          clear c5
          have H' := Aside0.mk H
          clear H
          go_wp2
          go_roundg k1
          case measure => have := HK1.out; omega
          case rel => exact ⟨((x5_1 + 1) % 4294967296), (by first | rfl | (simp; done) | (simp [*]; done)), H', ⟨by have := HK1.out; omega⟩, by repeat (first | exact Drawn0.refl _ | apply Drawn0.step)⟩
        rw [if_neg c5] at H
        have c5b0 : ((Go.bits .and .u32 (ji4) 1) == a1) = false := beq_eq_false_iff_ne.mpr c5
        have c5b1 : ((Go.bits .and .u32 (ji4) 1) != a1) = true := bne_iff_ne.mpr c5
        obtain rfl := Option.some.inj H
        go_wp2
        go_ret
        exact ⟨by first | rfl | (simp; done) | (simp only [← hji4] <;> (first | rfl | simp)) | (simp [*]; done), by repeat (first | exact Drawn0.refl _ | apply Drawn0.step)⟩
      rw [if_neg c3] at H
      have c3b0 : decide (x5_1 < 32) = false := decide_eq_false c3
      clear c3
      obtain rfl := Option.some.inj H
      go_wp2
      go_ret
      exact ⟨by first | rfl | (simp; done) | (simp [*]; done), by repeat (first | exact Drawn0.refl _ | apply Drawn0.step)⟩

end Go.Proofs.YtnddjndgfaefaaaDoor.F
end
section
namespace Go.Proofs.YtnddjndgfaefaaaDoor.F
open Go.RowKit Go.Proofs.YtnddjndgfaefaaaDoorW.PrintWords Go.Proofs.YtnddjndgfaefaaaDoorW.PrintLast Go.Proofs.YtnddjndgfaefaaaDoorW.PrintMore
attribute [local go_sem] max2_int min2_int max_two min_two max_three min_three max_four min_four
set_option linter.unusedVariables false
set_option linter.unusedSimpArgs false

def ferryref09_mask.f (a0 : Int) : Option (Int) := if a0 ≥ 32 then (some 4294967295) else (if 0 ≤ (IntKind.u64.wrap (a0)) then (some (((shl .u32 1 (IntKind.u64.wrap (a0))) - 1) % 4294967296)) else (none))
set_option maxHeartbeats 8000000 in
set_option maxRecDepth 100000 in
theorem ferryref09_mask.calls (a0 : Int) (r : Int) (w : World) (h : ferryref09_mask.f a0 = some r) :
    Calls Tryd.prog 65 #[.int .i64 a0] w fun e w' => e = .returned (.int .u32 r) ∧ Drawn0 w w' := by
  have H : (if a0 ≥ 32 then (some 4294967295) else (if 0 ≤ (IntKind.u64.wrap (a0)) then (some (((shl .u32 1 (IntKind.u64.wrap (a0))) - 1) % 4294967296)) else (none))) = some r := h
  clear h
  by_cases c2 : a0 ≥ 32
  · rw [if_pos c2] at H
    have c2b0 : decide (32 ≤ a0) = true := decide_eq_true c2
    clear c2
    obtain rfl := Option.some.inj H
    go_enter Tryd.func65, Tryd.ntmps65
    go_wp2
    go_ret
    exact ⟨by first | rfl | (simp; done) | (simp [*]; done), by repeat (first | exact Drawn0.refl _ | apply Drawn0.step)⟩
  rw [if_neg c2] at H
  have c2b0 : decide (32 ≤ a0) = false := decide_eq_false c2
  clear c2
  obtain ⟨ji3, hji3⟩ : ∃ j_ : Int, (IntKind.u64.wrap (a0)) = j_ := ⟨_, rfl⟩
  replace H : (if 0 ≤ (ji3) then (some (((shl .u32 1 (ji3)) - 1) % 4294967296)) else (none)) = some r := by first | (rw [hji3] at H; exact H) | (simp only [hji3] at H ⊢; exact H)
  by_cases c4 : 0 ≤ (ji3)
  · rw [if_pos c4] at H
    have c4b0 := eq_true c4
    have c4b1 : decide (0 ≤ (ji3)) = true := decide_eq_true c4
    clear c4
    obtain ⟨ji5, hji5⟩ : ∃ j_ : Int, (shl .u32 1 (ji3)) = j_ := ⟨_, rfl⟩
    replace H : (some (((ji5) - 1) % 4294967296)) = some r := by first | (rw [hji5] at H; exact H) | (simp only [hji5] at H ⊢; exact H)
    have hji5_ : (IntKind.u32.wrap (1 * 2 ^ min (ji3).toNat 32)) = ji5 := hji5
    have hji5z : (ji3) ≤ 32 → (IntKind.u32.wrap (1 * 2 ^ (ji3).toNat)) = ji5 := shl_small hji5
    have hji5u : (IntKind.u32.wrap (2 ^ min (ji3).toNat 32)) = ji5 := by have h_ := hji5_; rw [Int.one_mul] at h_; exact h_
    have hji5v : (ji3) ≤ 32 → (IntKind.u32.wrap (2 ^ (ji3).toNat)) = ji5 := fun hle_ => by have h_ := hji5z hle_; rw [Int.one_mul] at h_; exact h_
    obtain rfl := Option.some.inj H
    go_enter Tryd.func65, Tryd.ntmps65
    go_wp2
    go_ret
    exact ⟨by first | rfl | (simp; done) | (simp only [← hji3, ← hji5] <;> (first | rfl | simp)) | (simp [*]; done), by repeat (first | exact Drawn0.refl _ | apply Drawn0.step)⟩
  rw [if_neg c4] at H
  exact absurd H (by simp)

end Go.Proofs.YtnddjndgfaefaaaDoor.F
end
section
namespace Go.Proofs.YtnddjndgfaefaaaDoor.F
open Go.RowKit Go.Proofs.YtnddjndgfaefaaaDoorW.PrintWords Go.Proofs.YtnddjndgfaefaaaDoorW.PrintLast Go.Proofs.YtnddjndgfaefaaaDoorW.PrintMore
attribute [local go_sem] max2_int min2_int max_two min_two max_three min_three max_four min_four
set_option linter.unusedVariables false
set_option linter.unusedSimpArgs false

def ferryref09_over.f (a0 : Int) (a1 : Int) (a2 : Bool) : Option (Int × Bool) := if a2 = true then (if (wrap64 ((wrap64 (wrap32 (a0))) + (wrap64 (-(wrap64 (wrap32 (a1))))))) < (-2147483648) then (some (0, false)) else (if (wrap64 ((wrap64 (wrap32 (a0))) + (wrap64 (-(wrap64 (wrap32 (a1))))))) > 2147483647 then (some (0, false)) else (some ((wrap64 ((wrap64 (wrap32 (a0))) + (wrap64 (-(wrap64 (wrap32 (a1))))))) % 4294967296, true)))) else (if (wrap64 ((wrap64 (wrap32 (a0))) + (wrap64 (wrap32 (a1))))) < (-2147483648) then (some (0, false)) else (if (wrap64 ((wrap64 (wrap32 (a0))) + (wrap64 (wrap32 (a1))))) > 2147483647 then (some (0, false)) else (some ((wrap64 ((wrap64 (wrap32 (a0))) + (wrap64 (wrap32 (a1))))) % 4294967296, true))))
set_option maxHeartbeats 8000000 in
set_option maxRecDepth 100000 in
theorem ferryref09_over.calls (a0 : Int) (a1 : Int) (a2 : Bool) (r1 : Int) (r2 : Bool) (w : World) (h : ferryref09_over.f a0 a1 a2 = some (r1, r2)) :
    Calls Tryd.prog 24 #[.int .u32 a0, .int .u32 a1, .bool a2] w fun e w' => e = .returned (.tuple #[.int .u32 r1, .bool r2]) ∧ Drawn0 w w' := by
  have H : (if a2 = true then (if (wrap64 ((wrap64 (wrap32 (a0))) + (wrap64 (-(wrap64 (wrap32 (a1))))))) < (-2147483648) then (some (0, false)) else (if (wrap64 ((wrap64 (wrap32 (a0))) + (wrap64 (-(wrap64 (wrap32 (a1))))))) > 2147483647 then (some (0, false)) else (some ((wrap64 ((wrap64 (wrap32 (a0))) + (wrap64 (-(wrap64 (wrap32 (a1))))))) % 4294967296, true)))) else (if (wrap64 ((wrap64 (wrap32 (a0))) + (wrap64 (wrap32 (a1))))) < (-2147483648) then (some (0, false)) else (if (wrap64 ((wrap64 (wrap32 (a0))) + (wrap64 (wrap32 (a1))))) > 2147483647 then (some (0, false)) else (some ((wrap64 ((wrap64 (wrap32 (a0))) + (wrap64 (wrap32 (a1))))) % 4294967296, true))))) = some (r1, r2) := h
  clear h
  by_cases c4 : a2 = true
  · subst c4
    have H1 : (if (wrap64 ((wrap64 (wrap32 (a0))) + (wrap64 (-(wrap64 (wrap32 (a1))))))) < (-2147483648) then (some (0, false)) else (if (wrap64 ((wrap64 (wrap32 (a0))) + (wrap64 (-(wrap64 (wrap32 (a1))))))) > 2147483647 then (some (0, false)) else (some ((wrap64 ((wrap64 (wrap32 (a0))) + (wrap64 (-(wrap64 (wrap32 (a1))))))) % 4294967296, true)))) = some (r1, r2) := by rw [if_pos rfl] at H; exact H
    clear H
    have H := H1
    clear H1
    by_cases c5 : (wrap64 ((wrap64 (wrap32 (a0))) + (wrap64 (-(wrap64 (wrap32 (a1))))))) < (-2147483648)
    · rw [if_pos c5] at H
      have c5b0 : decide ((wrap64 ((wrap64 (wrap32 (a0))) + (wrap64 (-(wrap64 (wrap32 (a1))))))) < (-2147483648)) = true := decide_eq_true c5
      clear c5
      simp only [Option.some.injEq, Prod.mk.injEq] at H
      obtain ⟨rfl, rfl⟩ := H
      go_enter Tryd.func24, Tryd.ntmps24
      go_wp2
      go_ret2
      exact ⟨by first | rfl | (simp; done) | (simp [*]; done), by repeat (first | exact Drawn0.refl _ | apply Drawn0.step)⟩
    rw [if_neg c5] at H
    have c5b0 : decide ((wrap64 ((wrap64 (wrap32 (a0))) + (wrap64 (-(wrap64 (wrap32 (a1))))))) < (-2147483648)) = false := decide_eq_false c5
    clear c5
    by_cases c6 : (wrap64 ((wrap64 (wrap32 (a0))) + (wrap64 (-(wrap64 (wrap32 (a1))))))) > 2147483647
    · rw [if_pos c6] at H
      have c6b0 : decide (2147483647 < (wrap64 ((wrap64 (wrap32 (a0))) + (wrap64 (-(wrap64 (wrap32 (a1)))))))) = true := decide_eq_true c6
      clear c6
      simp only [Option.some.injEq, Prod.mk.injEq] at H
      obtain ⟨rfl, rfl⟩ := H
      go_enter Tryd.func24, Tryd.ntmps24
      go_wp2
      go_ret2
      exact ⟨by first | rfl | (simp; done) | (simp [*]; done), by repeat (first | exact Drawn0.refl _ | apply Drawn0.step)⟩
    rw [if_neg c6] at H
    have c6b0 : decide (2147483647 < (wrap64 ((wrap64 (wrap32 (a0))) + (wrap64 (-(wrap64 (wrap32 (a1)))))))) = false := decide_eq_false c6
    clear c6
    simp only [Option.some.injEq, Prod.mk.injEq] at H
    obtain ⟨rfl, rfl⟩ := H
    go_enter Tryd.func24, Tryd.ntmps24
    go_wp2
    go_ret2
    exact ⟨by first | rfl | (simp; done) | (simp [*]; done), by repeat (first | exact Drawn0.refl _ | apply Drawn0.step)⟩
  replace c4 := Bool.eq_false_iff.mpr c4
  subst c4
  have H1 : (if (wrap64 ((wrap64 (wrap32 (a0))) + (wrap64 (wrap32 (a1))))) < (-2147483648) then (some (0, false)) else (if (wrap64 ((wrap64 (wrap32 (a0))) + (wrap64 (wrap32 (a1))))) > 2147483647 then (some (0, false)) else (some ((wrap64 ((wrap64 (wrap32 (a0))) + (wrap64 (wrap32 (a1))))) % 4294967296, true)))) = some (r1, r2) := by rw [if_neg (show ¬ (false = true) by decide)] at H; exact H
  clear H
  have H := H1
  clear H1
  by_cases c7 : (wrap64 ((wrap64 (wrap32 (a0))) + (wrap64 (wrap32 (a1))))) < (-2147483648)
  · rw [if_pos c7] at H
    have c7b0 : decide ((wrap64 ((wrap64 (wrap32 (a0))) + (wrap64 (wrap32 (a1))))) < (-2147483648)) = true := decide_eq_true c7
    clear c7
    simp only [Option.some.injEq, Prod.mk.injEq] at H
    obtain ⟨rfl, rfl⟩ := H
    go_enter Tryd.func24, Tryd.ntmps24
    go_wp2
    go_ret2
    exact ⟨by first | rfl | (simp; done) | (simp [*]; done), by repeat (first | exact Drawn0.refl _ | apply Drawn0.step)⟩
  rw [if_neg c7] at H
  have c7b0 : decide ((wrap64 ((wrap64 (wrap32 (a0))) + (wrap64 (wrap32 (a1))))) < (-2147483648)) = false := decide_eq_false c7
  clear c7
  by_cases c8 : (wrap64 ((wrap64 (wrap32 (a0))) + (wrap64 (wrap32 (a1))))) > 2147483647
  · rw [if_pos c8] at H
    have c8b0 : decide (2147483647 < (wrap64 ((wrap64 (wrap32 (a0))) + (wrap64 (wrap32 (a1)))))) = true := decide_eq_true c8
    clear c8
    simp only [Option.some.injEq, Prod.mk.injEq] at H
    obtain ⟨rfl, rfl⟩ := H
    go_enter Tryd.func24, Tryd.ntmps24
    go_wp2
    go_ret2
    exact ⟨by first | rfl | (simp; done) | (simp [*]; done), by repeat (first | exact Drawn0.refl _ | apply Drawn0.step)⟩
  rw [if_neg c8] at H
  have c8b0 : decide (2147483647 < (wrap64 ((wrap64 (wrap32 (a0))) + (wrap64 (wrap32 (a1)))))) = false := decide_eq_false c8
  clear c8
  simp only [Option.some.injEq, Prod.mk.injEq] at H
  obtain ⟨rfl, rfl⟩ := H
  go_enter Tryd.func24, Tryd.ntmps24
  go_wp2
  go_ret2
  exact ⟨by first | rfl | (simp; done) | (simp [*]; done), by repeat (first | exact Drawn0.refl _ | apply Drawn0.step)⟩

end Go.Proofs.YtnddjndgfaefaaaDoor.F
end
section
namespace Go.Proofs.YtnddjndgfaefaaaDoor.F
open Go.RowKit Go.Proofs.YtnddjndgfaefaaaDoorW.PrintWords Go.Proofs.YtnddjndgfaefaaaDoorW.PrintLast Go.Proofs.YtnddjndgfaefaaaDoorW.PrintMore
attribute [local go_sem] max2_int min2_int max_two min_two max_three min_three max_four min_four
set_option linter.unusedVariables false
set_option linter.unusedSimpArgs false

def ferryref09_right.f (a0 : Int) (a1 : Int) : Option (Int) := if 0 ≤ a1 then (some ((shr .i32 (wrap32 (a0)) a1) % 4294967296)) else (none)
set_option maxHeartbeats 8000000 in
set_option maxRecDepth 100000 in
theorem ferryref09_right.calls (a0 : Int) (a1 : Int) (r : Int) (w : World) (h : ferryref09_right.f a0 a1 = some r) :
    Calls Tryd.prog 43 #[.int .u32 a0, .int .u64 a1] w fun e w' => e = .returned (.int .u32 r) ∧ Drawn0 w w' := by
  have H : (if 0 ≤ a1 then (some ((shr .i32 (wrap32 (a0)) a1) % 4294967296)) else (none)) = some r := h
  clear h
  by_cases c3 : 0 ≤ a1
  · rw [if_pos c3] at H
    have c3b0 := eq_true c3
    have c3b1 : decide (0 ≤ a1) = true := decide_eq_true c3
    clear c3
    obtain ⟨ji4, hji4⟩ : ∃ j_ : Int, (shr .i32 (wrap32 (a0)) a1) = j_ := ⟨_, rfl⟩
    replace H : (some ((ji4) % 4294967296)) = some r := by first | (rw [hji4] at H; exact H) | (simp only [hji4] at H ⊢; exact H)
    have hji4_ : ((wrap32 (a0)) / 2 ^ min a1.toNat 32) = ji4 := hji4
    have hji4z : a1 ≤ 32 → ((wrap32 (a0)) / 2 ^ a1.toNat) = ji4 := shr_small hji4
    obtain rfl := Option.some.inj H
    go_enter Tryd.func43, Tryd.ntmps43
    go_wp2
    go_ret
    exact ⟨by first | rfl | (simp; done) | (simp only [← hji4] <;> (first | rfl | simp)) | (simp [*]; done), by repeat (first | exact Drawn0.refl _ | apply Drawn0.step)⟩
  rw [if_neg c3] at H
  exact absurd H (by simp)

end Go.Proofs.YtnddjndgfaefaaaDoor.F
end
