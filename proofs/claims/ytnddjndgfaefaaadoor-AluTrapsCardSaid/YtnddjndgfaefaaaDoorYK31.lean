import Derived.Below
import Derived.Deep.Draws
import Derived.Deep.AppendLies
import Derived.Maps.AppendAt
import Derived.OwnWalk
import Derived.Laws.BytesArg
import Derived.Laws.MakeOwn
import Derived.Laws.OwnMore
import Derived.Deep.OwnRows
import Derived.Tactics
import Derived.Lib.ConvBytes
import Derived.Laws.Slices
import Derived.WalkKit
import Derived.KernelRfl
import Derived.RowKit3
import Derived.Deep.LoopGhost
import Derived.Deep.QuietTactic
import Derived.BigQuiet
import Derived.WideLaws
import Derived.Deep.DeepCutAuto
import Derived.Deep.CutBlock
import Derived.Deep.RegionHeld3
import Derived.Laws.Rows
import Derived.Lib.AppendStr
import Derived.ArgAppend
import Derived.Laws.IdiomCopy
import Derived.RowKit
import Derived.OrdersHeld
import Derived.Laws.BitsLemmas
import Derived.Laws.StructEq
import Derived.WalkLawsBesides
import Derived.Shelf.Abstract
import Derived.Shelf.RegionOpen
import Derived.RangeFuncRecord
import Derived.OwnWalkIn
import Derived.ProofKit
import Derived.Lib.Hide
import Derived.Shelf.Small.Bits
import Derived.Shelf.LaysM
import Derived.Shelf.Strings.Fields
import Derived.Shelf.Strings.Replace
import Derived.Shelf.Strings.SplitShaped
import Derived.Lib.LaidTab
import Derived.Maps.OwnOps
import Derived.WalkSmall
import Derived.Laws.ResultCell
import Derived.Deep.RegionWith
import Derived.Defers
import Derived.Recover
import Derived.Tactics2
import Derived.Lib.ItoaNum
import Derived.Test.YtnddjndgfaefaaaDoorZF0
import Derived.Test.YtnddjndgfaefaaaDoorYA4
import Derived.Test.YtnddjndgfaefaaaDoorYA7FAluBoth
import Derived.Test.YtnddjndgfaefaaaDoorYA14FDecEncode
import Derived.Test.YtnddjndgfaefaaaDoorYA15FDecForm
import Derived.Test.YtnddjndgfaefaaaDoorYA16HAluDo
import Derived.Test.YtnddjndgfaefaaaDoorYA21
import Derived.Test.YtnddjndgfaefaaaDoorYE25
section
namespace Go.Proofs.YtnddjndgfaefaaaDoor.F
set_option linter.unusedVariables false
set_option linter.unusedSimpArgs false
open Go.RowKit Go.Proofs.YtnddjndgfaefaaaDoorW.PrintWords Go.Proofs.YtnddjndgfaefaaaDoorW.PrintLast Go.Proofs.YtnddjndgfaefaaaDoorW.PrintMore
attribute [local irreducible] dec_Encode.f dec_Form.f ferryref07_Encode.f
theorem aform_slt : dec_Form.f ⟨#[115, 108, 116]⟩ = some ⟨#[100, 115, 116]⟩ := by decide +kernel
theorem aform_sltu : dec_Form.f ⟨#[115, 108, 116, 117]⟩ = some ⟨#[100, 115, 116]⟩ := by decide +kernel
theorem l_slt : (⟨#[115, 108, 116]⟩ : ByteArray).toList = [115, 108, 116] := lb _
theorem l_sltu : (⟨#[115, 108, 116, 117]⟩ : ByteArray).toList = [115, 108, 116, 117] := lb _
theorem truth_of (p : Prop) [Decidable p] : alu_truth.f (decide p) = some (if p then 1 else 0) := by
  unfold alu_truth.f
  by_cases h : p
  · rw [if_pos (decide_eq_true h), if_pos h]
  · rw [if_neg (by rw [decide_eq_false h]; decide), if_neg h]
set_option maxHeartbeats 2000000 in
theorem aval_slt (x1 x2 d a i s t v : Int) (s0 : 0 ≤ s) (s1 : s ≤ 4294967295) (t0 : 0 ≤ t) (t1 : t ≤ 4294967295) (i0 : 0 ≤ i) (i1 : i ≤ 4294967295) (d0 : 0 ≤ d) (d1 : d < 32) (a0 : 0 ≤ a) (a1 : a < 32) (he : dec_Encode.f ⟨#[115, 108, 116]⟩ x1 x2 d a i = some (v, true)) :
    alu_Do.f ⟨#[115, 108, 116]⟩ x1 x2 d a i s t = some ((if wrap32 s < wrap32 t then 1 else 0), true) := by
  unfold alu_Do.f
  rw [he, Option.bind_some]
  dsimp only
  rw [if_pos rfl, if_pos (show (⟨#[115, 108, 116]⟩ : ByteArray).toList ∈ aluNames from by rw [l_slt]; decide), aform_slt, Option.bind_some]
  rw [l_dst, if_neg (by decide), if_neg (by decide), if_neg (by decide), if_neg (by decide), if_neg (by decide), if_neg (by decide)]
  rw [l_slt, if_neg (fun h => absurd h.1 (by decide)), if_neg (fun h => absurd h.1 (by decide))]
  have hbo : alu_both.f ⟨#[115, 108, 116]⟩ x1 x2 d a i s t = some ((if wrap32 s < wrap32 t then 1 else 0)) := by
    unfold alu_both.f
    rw [l_slt, if_neg (by decide), if_neg (by decide), if_neg (by decide), if_neg (by decide), if_neg (by decide), if_neg (by decide), if_neg (by decide), if_neg (by decide), if_pos rfl]
    rw [truth_of]
    rfl
  rw [hbo]
  rfl
set_option maxHeartbeats 2000000 in
theorem aval_sltu (x1 x2 d a i s t v : Int) (s0 : 0 ≤ s) (s1 : s ≤ 4294967295) (t0 : 0 ≤ t) (t1 : t ≤ 4294967295) (i0 : 0 ≤ i) (i1 : i ≤ 4294967295) (d0 : 0 ≤ d) (d1 : d < 32) (a0 : 0 ≤ a) (a1 : a < 32) (he : dec_Encode.f ⟨#[115, 108, 116, 117]⟩ x1 x2 d a i = some (v, true)) :
    alu_Do.f ⟨#[115, 108, 116, 117]⟩ x1 x2 d a i s t = some ((if s < t then 1 else 0), true) := by
  unfold alu_Do.f
  rw [he, Option.bind_some]
  dsimp only
  rw [if_pos rfl, if_pos (show (⟨#[115, 108, 116, 117]⟩ : ByteArray).toList ∈ aluNames from by rw [l_sltu]; decide), aform_sltu, Option.bind_some]
  rw [l_dst, if_neg (by decide), if_neg (by decide), if_neg (by decide), if_neg (by decide), if_neg (by decide), if_neg (by decide)]
  rw [l_sltu, if_neg (fun h => absurd h.1 (by decide)), if_neg (fun h => absurd h.1 (by decide))]
  have hbo : alu_both.f ⟨#[115, 108, 116, 117]⟩ x1 x2 d a i s t = some ((if s < t then 1 else 0)) := by
    unfold alu_both.f
    rw [l_sltu, if_neg (by decide), if_neg (by decide), if_neg (by decide), if_neg (by decide), if_neg (by decide), if_neg (by decide), if_neg (by decide), if_neg (by decide), if_neg (by decide), if_pos rfl]
    rw [truth_of]
    rfl
  rw [hbo]
  rfl
end Go.Proofs.YtnddjndgfaefaaaDoor.F
end
section
namespace Go.Proofs.YtnddjndgfaefaaaDoor.F
open Go.RowKit Go.Proofs.YtnddjndgfaefaaaDoorW.PrintWords Go.Proofs.YtnddjndgfaefaaaDoorW.PrintLast Go.Proofs.YtnddjndgfaefaaaDoorW.PrintMore
attribute [local go_sem] max2_int min2_int max_two min_two max_three min_three max_four min_four
set_option linter.unusedVariables false
set_option linter.unusedSimpArgs false

def alu_Traps.f (a0 : ByteArray) (a1 : Int) (a2 : Int) : Option (Bool) := if a0.toList = ([116, 103, 101] : List UInt8) then (some (decide ((wrap32 (a1)) ≥ (wrap32 (a2))))) else (if a0.toList = ([116, 103, 101, 117] : List UInt8) then (some (decide (a1 ≥ a2))) else (if a0.toList = ([116, 108, 116] : List UInt8) then (some (decide ((wrap32 (a1)) < (wrap32 (a2))))) else (if a0.toList = ([116, 108, 116, 117] : List UInt8) then (some (decide (a1 < a2))) else (if a0.toList = ([116, 101, 113] : List UInt8) then (some (a1 == a2)) else (if a0.toList = ([116, 110, 101] : List UInt8) then (some (a1 != a2)) else (some false))))))
set_option maxHeartbeats 8000000 in
set_option maxRecDepth 100000 in
theorem alu_Traps.calls (a0 : ByteArray) (a1 : Int) (a2 : Int) (r : Bool) (w : World) (h : alu_Traps.f a0 a1 a2 = some r) :
    Calls Tryd.prog 14 #[.string a0, .int .u32 a1, .int .u32 a2] w fun e w' => e = .returned (.bool r) ∧ Drawn0 w w' := by
  have H : (if a0.toList = ([116, 103, 101] : List UInt8) then (some (decide ((wrap32 (a1)) ≥ (wrap32 (a2))))) else (if a0.toList = ([116, 103, 101, 117] : List UInt8) then (some (decide (a1 ≥ a2))) else (if a0.toList = ([116, 108, 116] : List UInt8) then (some (decide ((wrap32 (a1)) < (wrap32 (a2))))) else (if a0.toList = ([116, 108, 116, 117] : List UInt8) then (some (decide (a1 < a2))) else (if a0.toList = ([116, 101, 113] : List UInt8) then (some (a1 == a2)) else (if a0.toList = ([116, 110, 101] : List UInt8) then (some (a1 != a2)) else (some false))))))) = some r := h
  clear h
  by_cases c4 : a0.toList = ([116, 103, 101] : List UInt8)
  · rw [if_pos c4] at H
    have c4b0 : (a0.toList == ([116, 103, 101] : List UInt8)) = true := beq_iff_eq.mpr c4
    have c4b1 : (a0.toList != ([116, 103, 101] : List UInt8)) = false := bne_eq_false_iff_eq.mpr c4
    clear c4
    obtain rfl := Option.some.inj H
    go_enter Tryd.func14, Tryd.ntmps14
    go_wp2
    go_ret
    exact ⟨by first | rfl | (simp; done) | (simp [*]; done), by repeat (first | exact Drawn0.refl _ | apply Drawn0.step)⟩
  · rw [if_neg c4] at H
    have c4b0 : (a0.toList == ([116, 103, 101] : List UInt8)) = false := beq_eq_false_iff_ne.mpr c4
    have c4b1 : (a0.toList != ([116, 103, 101] : List UInt8)) = true := bne_iff_ne.mpr c4
    by_cases c5 : a0.toList = ([116, 103, 101, 117] : List UInt8)
    · rw [if_pos c5] at H
      have c5b0 : (a0.toList == ([116, 103, 101, 117] : List UInt8)) = true := beq_iff_eq.mpr c5
      have c5b1 : (a0.toList != ([116, 103, 101, 117] : List UInt8)) = false := bne_eq_false_iff_eq.mpr c5
      clear c5
      obtain rfl := Option.some.inj H
      go_enter Tryd.func14, Tryd.ntmps14
      go_wp2
      go_ret
      exact ⟨by first | rfl | (simp; done) | (simp [*]; done), by repeat (first | exact Drawn0.refl _ | apply Drawn0.step)⟩
    · rw [if_neg c5] at H
      have c5b0 : (a0.toList == ([116, 103, 101, 117] : List UInt8)) = false := beq_eq_false_iff_ne.mpr c5
      have c5b1 : (a0.toList != ([116, 103, 101, 117] : List UInt8)) = true := bne_iff_ne.mpr c5
      by_cases c6 : a0.toList = ([116, 108, 116] : List UInt8)
      · rw [if_pos c6] at H
        have c6b0 : (a0.toList == ([116, 108, 116] : List UInt8)) = true := beq_iff_eq.mpr c6
        have c6b1 : (a0.toList != ([116, 108, 116] : List UInt8)) = false := bne_eq_false_iff_eq.mpr c6
        clear c6
        obtain rfl := Option.some.inj H
        go_enter Tryd.func14, Tryd.ntmps14
        go_wp2
        go_ret
        exact ⟨by first | rfl | (simp; done) | (simp [*]; done), by repeat (first | exact Drawn0.refl _ | apply Drawn0.step)⟩
      · rw [if_neg c6] at H
        have c6b0 : (a0.toList == ([116, 108, 116] : List UInt8)) = false := beq_eq_false_iff_ne.mpr c6
        have c6b1 : (a0.toList != ([116, 108, 116] : List UInt8)) = true := bne_iff_ne.mpr c6
        by_cases c7 : a0.toList = ([116, 108, 116, 117] : List UInt8)
        · rw [if_pos c7] at H
          have c7b0 : (a0.toList == ([116, 108, 116, 117] : List UInt8)) = true := beq_iff_eq.mpr c7
          have c7b1 : (a0.toList != ([116, 108, 116, 117] : List UInt8)) = false := bne_eq_false_iff_eq.mpr c7
          clear c7
          obtain rfl := Option.some.inj H
          go_enter Tryd.func14, Tryd.ntmps14
          go_wp2
          go_ret
          exact ⟨by first | rfl | (simp; done) | (simp [*]; done), by repeat (first | exact Drawn0.refl _ | apply Drawn0.step)⟩
        · rw [if_neg c7] at H
          have c7b0 : (a0.toList == ([116, 108, 116, 117] : List UInt8)) = false := beq_eq_false_iff_ne.mpr c7
          have c7b1 : (a0.toList != ([116, 108, 116, 117] : List UInt8)) = true := bne_iff_ne.mpr c7
          by_cases c8 : a0.toList = ([116, 101, 113] : List UInt8)
          · rw [if_pos c8] at H
            have c8b0 : (a0.toList == ([116, 101, 113] : List UInt8)) = true := beq_iff_eq.mpr c8
            have c8b1 : (a0.toList != ([116, 101, 113] : List UInt8)) = false := bne_eq_false_iff_eq.mpr c8
            clear c8
            obtain rfl := Option.some.inj H
            go_enter Tryd.func14, Tryd.ntmps14
            go_wp2
            go_ret
            exact ⟨by first | rfl | (simp; done) | (simp [*]; done), by repeat (first | exact Drawn0.refl _ | apply Drawn0.step)⟩
          · rw [if_neg c8] at H
            have c8b0 : (a0.toList == ([116, 101, 113] : List UInt8)) = false := beq_eq_false_iff_ne.mpr c8
            have c8b1 : (a0.toList != ([116, 101, 113] : List UInt8)) = true := bne_iff_ne.mpr c8
            by_cases c9 : a0.toList = ([116, 110, 101] : List UInt8)
            · rw [if_pos c9] at H
              have c9b0 : (a0.toList == ([116, 110, 101] : List UInt8)) = true := beq_iff_eq.mpr c9
              have c9b1 : (a0.toList != ([116, 110, 101] : List UInt8)) = false := bne_eq_false_iff_eq.mpr c9
              clear c9
              obtain rfl := Option.some.inj H
              go_enter Tryd.func14, Tryd.ntmps14
              go_wp2
              go_ret
              exact ⟨by first | rfl | (simp; done) | (simp [*]; done), by repeat (first | exact Drawn0.refl _ | apply Drawn0.step)⟩
            · rw [if_neg c9] at H
              have c9b0 : (a0.toList == ([116, 110, 101] : List UInt8)) = false := beq_eq_false_iff_ne.mpr c9
              have c9b1 : (a0.toList != ([116, 110, 101] : List UInt8)) = true := bne_iff_ne.mpr c9
              obtain rfl := Option.some.inj H
              go_enter Tryd.func14, Tryd.ntmps14
              go_wp2
              go_ret
              exact ⟨by first | rfl | (simp; done) | (simp [*]; done), by repeat (first | exact Drawn0.refl _ | apply Drawn0.step)⟩

end Go.Proofs.YtnddjndgfaefaaaDoor.F
end
