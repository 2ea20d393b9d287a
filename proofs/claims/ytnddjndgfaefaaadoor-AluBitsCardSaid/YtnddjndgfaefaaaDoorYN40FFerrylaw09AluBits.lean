import Derived.Below
import Derived.Deep.Draws
import Derived.Deep.AppendLies
import Derived.Maps.AppendAt
import Derived.OwnWalk
import Derived.Laws.BytesArg
import Derived.Laws.MakeOwn
import Derived.Laws.OwnMore
import Derived.Deep.OwnRows
import Derived.Tactics
import Derived.Lib.ConvBytes
import Derived.Laws.Slices
import Derived.WalkKit
import Derived.KernelRfl
import Derived.RowKit3
import Derived.Deep.LoopGhost
import Derived.Deep.QuietTactic
import Derived.BigQuiet
import Derived.WideLaws
import Derived.Deep.DeepCutAuto
import Derived.Deep.CutBlock
import Derived.Deep.RegionHeld3
import Derived.Laws.Rows
import Derived.Lib.AppendStr
import Derived.ArgAppend
import Derived.Laws.IdiomCopy
import Derived.RowKit
import Derived.OrdersHeld
import Derived.Laws.BitsLemmas
import Derived.Laws.StructEq
import Derived.WalkLawsBesides
import Derived.Shelf.Abstract
import Derived.Shelf.RegionOpen
import Derived.RangeFuncRecord
import Derived.OwnWalkIn
import Derived.ProofKit
import Derived.Lib.Hide
import Derived.Shelf.Small.Bits
import Derived.Shelf.LaysM
import Derived.Shelf.Strings.Fields
import Derived.Shelf.Strings.Replace
import Derived.Shelf.Strings.SplitShaped
import Derived.Lib.LaidTab
import Derived.Maps.OwnOps
import Derived.WalkSmall
import Derived.Laws.ResultCell
import Derived.Deep.RegionWith
import Derived.Defers
import Derived.Recover
import Derived.Tactics2
import Derived.Test.YtnddjndgfaefaaaDoorZF0
import Derived.Test.YtnddjndgfaefaaaDoorYA0
import Derived.Test.YtnddjndgfaefaaaDoorYA16HAluDo
import Derived.Test.YtnddjndgfaefaaaDoorYA17FFerrylaw09Of
import Derived.Test.YtnddjndgfaefaaaDoorYA18FFerrylaw09Awake
section
namespace Go.Proofs.YtnddjndgfaefaaaDoor.F
open Go.RowKit Go.Proofs.YtnddjndgfaefaaaDoorW.PrintWords Go.Proofs.YtnddjndgfaefaaaDoorW.PrintLast Go.Proofs.YtnddjndgfaefaaaDoorW.PrintMore
attribute [local go_sem] max2_int min2_int max_two min_two max_three min_three max_four min_four
set_option linter.unusedVariables false
set_option linter.unusedSimpArgs false

def ferrylaw09_AluBits.f (a0 : Int) (a1 : Int) : Option (Bool) := (ferrylaw09_of.f (⟨#[99, 108, 122]⟩ : ByteArray) a0 0).bind fun bt195 => ((ferrylaw09_of.f (⟨#[99, 108, 111]⟩ : ByteArray) (Go.bits .xor .u32 IntKind.u32.max a0) 0).bind fun bt197 => ((alu_Do.f (⟨#[115, 108, 108]⟩ : ByteArray) 0 0 0 (wrap64 (Int.tmod a1 32)) 0 0 a0).bind fun bt199 => ((alu_Do.f (⟨#[115, 114, 108]⟩ : ByteArray) 0 0 0 (wrap64 (Int.tmod a1 32)) 0 0 bt199.1).bind fun bt201 => ((ferrylaw09_of.f (⟨#[119, 115, 98, 104]⟩ : ByteArray) 0 a0).bind fun bt203 => ((ferrylaw09_of.f (⟨#[119, 115, 98, 104]⟩ : ByteArray) 0 bt203.1).bind fun bt205 => ((alu_Do.f (⟨#[114, 111, 116, 114]⟩ : ByteArray) 0 0 0 (wrap64 (Int.tmod a1 32)) 0 0 a0).bind fun bt207 => ((alu_Do.f (⟨#[114, 111, 116, 114]⟩ : ByteArray) 0 0 0 (Int.tmod (wrap64 (32 - (wrap64 (Int.tmod a1 32)))) 32) 0 0 bt207.1).bind fun bt209 => (if bt195.1 = bt197.1 then (if 0 ≤ (wrap64 (Int.tmod a1 32)) then (if bt201.1 = (shr .u32 (shl .u32 a0 (wrap64 (Int.tmod a1 32))) (wrap64 (Int.tmod a1 32))) then (if bt205.1 = a0 then (if bt209.1 = a0 then (if ((bt195.1 == 32) == (a0 == 0)) = true then ((ferrylaw09_awake.f).bind fun t211 => (some t211)) else (some false)) else (some false)) else (some false)) else (some false)) else (none)) else (some false)))))))))
set_option maxHeartbeats 8000000 in
set_option maxRecDepth 100000 in
theorem ferrylaw09_AluBits.calls (a0 : Int) (a1 : Int) (r : Bool) (w : World) (hL : Laid w) (h : ferrylaw09_AluBits.f a0 a1 = some true) :
    Calls Tryd.prog 5 #[.int .u32 a0, .int .u8 a1] w fun e w' => e = .returned (.bool true) ∧ Below w.heap.size w w' := by
  have hu29 := Tryd.underlying29
  have HB := Aside0.mk (Below.refl w.heap.size w)
  have H : ((ferrylaw09_of.f (⟨#[99, 108, 122]⟩ : ByteArray) a0 0).bind fun bt195 => ((ferrylaw09_of.f (⟨#[99, 108, 111]⟩ : ByteArray) (Go.bits .xor .u32 IntKind.u32.max a0) 0).bind fun bt197 => ((alu_Do.f (⟨#[115, 108, 108]⟩ : ByteArray) 0 0 0 (wrap64 (Int.tmod a1 32)) 0 0 a0).bind fun bt199 => ((alu_Do.f (⟨#[115, 114, 108]⟩ : ByteArray) 0 0 0 (wrap64 (Int.tmod a1 32)) 0 0 bt199.1).bind fun bt201 => ((ferrylaw09_of.f (⟨#[119, 115, 98, 104]⟩ : ByteArray) 0 a0).bind fun bt203 => ((ferrylaw09_of.f (⟨#[119, 115, 98, 104]⟩ : ByteArray) 0 bt203.1).bind fun bt205 => ((alu_Do.f (⟨#[114, 111, 116, 114]⟩ : ByteArray) 0 0 0 (wrap64 (Int.tmod a1 32)) 0 0 a0).bind fun bt207 => ((alu_Do.f (⟨#[114, 111, 116, 114]⟩ : ByteArray) 0 0 0 (Int.tmod (wrap64 (32 - (wrap64 (Int.tmod a1 32)))) 32) 0 0 bt207.1).bind fun bt209 => (if bt195.1 = bt197.1 then (if 0 ≤ (wrap64 (Int.tmod a1 32)) then (if bt201.1 = (shr .u32 (shl .u32 a0 (wrap64 (Int.tmod a1 32))) (wrap64 (Int.tmod a1 32))) then (if bt205.1 = a0 then (if bt209.1 = a0 then (if ((bt195.1 == 32) == (a0 == 0)) = true then ((ferrylaw09_awake.f).bind fun t211 => (some t211)) else (some false)) else (some false)) else (some false)) else (some false)) else (none)) else (some false)))))))))) = some true := h
  clear h
  replace H := Option.bind_eq_some_iff.mp H
  obtain ⟨⟨t195, t196⟩, A30, H⟩ := H
  replace H : ((ferrylaw09_of.f (⟨#[99, 108, 111]⟩ : ByteArray) (Go.bits .xor .u32 IntKind.u32.max a0) 0).bind fun bt197 => ((alu_Do.f (⟨#[115, 108, 108]⟩ : ByteArray) 0 0 0 (wrap64 (Int.tmod a1 32)) 0 0 a0).bind fun bt199 => ((alu_Do.f (⟨#[115, 114, 108]⟩ : ByteArray) 0 0 0 (wrap64 (Int.tmod a1 32)) 0 0 bt199.1).bind fun bt201 => ((ferrylaw09_of.f (⟨#[119, 115, 98, 104]⟩ : ByteArray) 0 a0).bind fun bt203 => ((ferrylaw09_of.f (⟨#[119, 115, 98, 104]⟩ : ByteArray) 0 bt203.1).bind fun bt205 => ((alu_Do.f (⟨#[114, 111, 116, 114]⟩ : ByteArray) 0 0 0 (wrap64 (Int.tmod a1 32)) 0 0 a0).bind fun bt207 => ((alu_Do.f (⟨#[114, 111, 116, 114]⟩ : ByteArray) 0 0 0 (Int.tmod (wrap64 (32 - (wrap64 (Int.tmod a1 32)))) 32) 0 0 bt207.1).bind fun bt209 => (if t195 = bt197.1 then (if 0 ≤ (wrap64 (Int.tmod a1 32)) then (if bt201.1 = (shr .u32 (shl .u32 a0 (wrap64 (Int.tmod a1 32))) (wrap64 (Int.tmod a1 32))) then (if bt205.1 = a0 then (if bt209.1 = a0 then (if ((t195 == 32) == (a0 == 0)) = true then ((ferrylaw09_awake.f).bind fun t211 => (some t211)) else (some false)) else (some false)) else (some false)) else (some false)) else (none)) else (some false))))))))) = some true := H
  have A3 := Aside0.mk A30
  clear A30
  replace H := Option.bind_eq_some_iff.mp H
  obtain ⟨⟨t197, t198⟩, A40, H⟩ := H
  replace H : ((alu_Do.f (⟨#[115, 108, 108]⟩ : ByteArray) 0 0 0 (wrap64 (Int.tmod a1 32)) 0 0 a0).bind fun bt199 => ((alu_Do.f (⟨#[115, 114, 108]⟩ : ByteArray) 0 0 0 (wrap64 (Int.tmod a1 32)) 0 0 bt199.1).bind fun bt201 => ((ferrylaw09_of.f (⟨#[119, 115, 98, 104]⟩ : ByteArray) 0 a0).bind fun bt203 => ((ferrylaw09_of.f (⟨#[119, 115, 98, 104]⟩ : ByteArray) 0 bt203.1).bind fun bt205 => ((alu_Do.f (⟨#[114, 111, 116, 114]⟩ : ByteArray) 0 0 0 (wrap64 (Int.tmod a1 32)) 0 0 a0).bind fun bt207 => ((alu_Do.f (⟨#[114, 111, 116, 114]⟩ : ByteArray) 0 0 0 (Int.tmod (wrap64 (32 - (wrap64 (Int.tmod a1 32)))) 32) 0 0 bt207.1).bind fun bt209 => (if t195 = t197 then (if 0 ≤ (wrap64 (Int.tmod a1 32)) then (if bt201.1 = (shr .u32 (shl .u32 a0 (wrap64 (Int.tmod a1 32))) (wrap64 (Int.tmod a1 32))) then (if bt205.1 = a0 then (if bt209.1 = a0 then (if ((t195 == 32) == (a0 == 0)) = true then ((ferrylaw09_awake.f).bind fun t211 => (some t211)) else (some false)) else (some false)) else (some false)) else (some false)) else (none)) else (some false)))))))) = some true := H
  have A4 := Aside0.mk A40
  clear A40
  replace H := Option.bind_eq_some_iff.mp H
  obtain ⟨⟨t199, t200⟩, A50, H⟩ := H
  replace H : ((alu_Do.f (⟨#[115, 114, 108]⟩ : ByteArray) 0 0 0 (wrap64 (Int.tmod a1 32)) 0 0 t199).bind fun bt201 => ((ferrylaw09_of.f (⟨#[119, 115, 98, 104]⟩ : ByteArray) 0 a0).bind fun bt203 => ((ferrylaw09_of.f (⟨#[119, 115, 98, 104]⟩ : ByteArray) 0 bt203.1).bind fun bt205 => ((alu_Do.f (⟨#[114, 111, 116, 114]⟩ : ByteArray) 0 0 0 (wrap64 (Int.tmod a1 32)) 0 0 a0).bind fun bt207 => ((alu_Do.f (⟨#[114, 111, 116, 114]⟩ : ByteArray) 0 0 0 (Int.tmod (wrap64 (32 - (wrap64 (Int.tmod a1 32)))) 32) 0 0 bt207.1).bind fun bt209 => (if t195 = t197 then (if 0 ≤ (wrap64 (Int.tmod a1 32)) then (if bt201.1 = (shr .u32 (shl .u32 a0 (wrap64 (Int.tmod a1 32))) (wrap64 (Int.tmod a1 32))) then (if bt205.1 = a0 then (if bt209.1 = a0 then (if ((t195 == 32) == (a0 == 0)) = true then ((ferrylaw09_awake.f).bind fun t211 => (some t211)) else (some false)) else (some false)) else (some false)) else (some false)) else (none)) else (some false))))))) = some true := H
  have A5 := Aside0.mk A50
  clear A50
  replace H := Option.bind_eq_some_iff.mp H
  obtain ⟨⟨t201, t202⟩, A60, H⟩ := H
  replace H : ((ferrylaw09_of.f (⟨#[119, 115, 98, 104]⟩ : ByteArray) 0 a0).bind fun bt203 => ((ferrylaw09_of.f (⟨#[119, 115, 98, 104]⟩ : ByteArray) 0 bt203.1).bind fun bt205 => ((alu_Do.f (⟨#[114, 111, 116, 114]⟩ : ByteArray) 0 0 0 (wrap64 (Int.tmod a1 32)) 0 0 a0).bind fun bt207 => ((alu_Do.f (⟨#[114, 111, 116, 114]⟩ : ByteArray) 0 0 0 (Int.tmod (wrap64 (32 - (wrap64 (Int.tmod a1 32)))) 32) 0 0 bt207.1).bind fun bt209 => (if t195 = t197 then (if 0 ≤ (wrap64 (Int.tmod a1 32)) then (if t201 = (shr .u32 (shl .u32 a0 (wrap64 (Int.tmod a1 32))) (wrap64 (Int.tmod a1 32))) then (if bt205.1 = a0 then (if bt209.1 = a0 then (if ((t195 == 32) == (a0 == 0)) = true then ((ferrylaw09_awake.f).bind fun t211 => (some t211)) else (some false)) else (some false)) else (some false)) else (some false)) else (none)) else (some false)))))) = some true := H
  have A6 := Aside0.mk A60
  clear A60
  replace H := Option.bind_eq_some_iff.mp H
  obtain ⟨⟨t203, t204⟩, A70, H⟩ := H
  replace H : ((ferrylaw09_of.f (⟨#[119, 115, 98, 104]⟩ : ByteArray) 0 t203).bind fun bt205 => ((alu_Do.f (⟨#[114, 111, 116, 114]⟩ : ByteArray) 0 0 0 (wrap64 (Int.tmod a1 32)) 0 0 a0).bind fun bt207 => ((alu_Do.f (⟨#[114, 111, 116, 114]⟩ : ByteArray) 0 0 0 (Int.tmod (wrap64 (32 - (wrap64 (Int.tmod a1 32)))) 32) 0 0 bt207.1).bind fun bt209 => (if t195 = t197 then (if 0 ≤ (wrap64 (Int.tmod a1 32)) then (if t201 = (shr .u32 (shl .u32 a0 (wrap64 (Int.tmod a1 32))) (wrap64 (Int.tmod a1 32))) then (if bt205.1 = a0 then (if bt209.1 = a0 then (if ((t195 == 32) == (a0 == 0)) = true then ((ferrylaw09_awake.f).bind fun t211 => (some t211)) else (some false)) else (some false)) else (some false)) else (some false)) else (none)) else (some false))))) = some true := H
  have A7 := Aside0.mk A70
  clear A70
  replace H := Option.bind_eq_some_iff.mp H
  obtain ⟨⟨t205, t206⟩, A80, H⟩ := H
  replace H : ((alu_Do.f (⟨#[114, 111, 116, 114]⟩ : ByteArray) 0 0 0 (wrap64 (Int.tmod a1 32)) 0 0 a0).bind fun bt207 => ((alu_Do.f (⟨#[114, 111, 116, 114]⟩ : ByteArray) 0 0 0 (Int.tmod (wrap64 (32 - (wrap64 (Int.tmod a1 32)))) 32) 0 0 bt207.1).bind fun bt209 => (if t195 = t197 then (if 0 ≤ (wrap64 (Int.tmod a1 32)) then (if t201 = (shr .u32 (shl .u32 a0 (wrap64 (Int.tmod a1 32))) (wrap64 (Int.tmod a1 32))) then (if t205 = a0 then (if bt209.1 = a0 then (if ((t195 == 32) == (a0 == 0)) = true then ((ferrylaw09_awake.f).bind fun t211 => (some t211)) else (some false)) else (some false)) else (some false)) else (some false)) else (none)) else (some false)))) = some true := H
  have A8 := Aside0.mk A80
  clear A80
  replace H := Option.bind_eq_some_iff.mp H
  obtain ⟨⟨t207, t208⟩, A90, H⟩ := H
  replace H : ((alu_Do.f (⟨#[114, 111, 116, 114]⟩ : ByteArray) 0 0 0 (Int.tmod (wrap64 (32 - (wrap64 (Int.tmod a1 32)))) 32) 0 0 t207).bind fun bt209 => (if t195 = t197 then (if 0 ≤ (wrap64 (Int.tmod a1 32)) then (if t201 = (shr .u32 (shl .u32 a0 (wrap64 (Int.tmod a1 32))) (wrap64 (Int.tmod a1 32))) then (if t205 = a0 then (if bt209.1 = a0 then (if ((t195 == 32) == (a0 == 0)) = true then ((ferrylaw09_awake.f).bind fun t211 => (some t211)) else (some false)) else (some false)) else (some false)) else (some false)) else (none)) else (some false))) = some true := H
  have A9 := Aside0.mk A90
  clear A90
  replace H := Option.bind_eq_some_iff.mp H
  obtain ⟨⟨t209, t210⟩, A100, H⟩ := H
  replace H : (if t195 = t197 then (if 0 ≤ (wrap64 (Int.tmod a1 32)) then (if t201 = (shr .u32 (shl .u32 a0 (wrap64 (Int.tmod a1 32))) (wrap64 (Int.tmod a1 32))) then (if t205 = a0 then (if t209 = a0 then (if ((t195 == 32) == (a0 == 0)) = true then ((ferrylaw09_awake.f).bind fun t211 => (some t211)) else (some false)) else (some false)) else (some false)) else (some false)) else (none)) else (some false)) = some true := H
  have A10 := Aside0.mk A100
  clear A100
  by_cases c11 : t195 = t197
  · rw [if_pos c11] at H
    have c11b0 : (t195 == t197) = true := beq_iff_eq.mpr c11
    have c11b1 : (t195 != t197) = false := bne_eq_false_iff_eq.mpr c11
    clear c11
    obtain ⟨ji12, hji12⟩ : ∃ j_ : Int, (wrap64 (Int.tmod a1 32)) = j_ := ⟨_, rfl⟩
    replace H : (if 0 ≤ (ji12) then (if t201 = (shr .u32 (shl .u32 a0 (ji12)) (ji12)) then (if t205 = a0 then (if t209 = a0 then (if ((t195 == 32) == (a0 == 0)) = true then ((ferrylaw09_awake.f).bind fun t211 => (some t211)) else (some false)) else (some false)) else (some false)) else (some false)) else (none)) = some true := by first | (rw [hji12] at H; exact H) | (simp only [hji12] at H ⊢; exact H)
    (try rw [hji12] at A3)
    (try rw [hji12] at A4)
    (try rw [hji12] at A5)
    (try rw [hji12] at A6)
    (try rw [hji12] at A7)
    (try rw [hji12] at A8)
    (try rw [hji12] at A9)
    (try rw [hji12] at A10)
    have hji12w : (IntKind.i64.wrap (Int.tmod a1 32)) = ji12 := (i64_w _).trans hji12
    by_cases c13 : 0 ≤ (ji12)
    · rw [if_pos c13] at H
      have c13b0 := eq_true c13
      have c13b1 : decide (0 ≤ (ji12)) = true := decide_eq_true c13
      clear c13
      obtain ⟨ji14, hji14⟩ : ∃ j_ : Int, (shl .u32 a0 (ji12)) = j_ := ⟨_, rfl⟩
      replace H : (if t201 = (shr .u32 (ji14) (ji12)) then (if t205 = a0 then (if t209 = a0 then (if ((t195 == 32) == (a0 == 0)) = true then ((ferrylaw09_awake.f).bind fun t211 => (some t211)) else (some false)) else (some false)) else (some false)) else (some false)) = some true := by first | (rw [hji14] at H; exact H) | (simp only [hji14] at H ⊢; exact H)
      (try rw [hji14] at A3)
      (try rw [hji14] at A4)
      (try rw [hji14] at A5)
      (try rw [hji14] at A6)
      (try rw [hji14] at A7)
      (try rw [hji14] at A8)
      (try rw [hji14] at A9)
      (try rw [hji14] at A10)
      have hji14_ : (IntKind.u32.wrap (a0 * 2 ^ min (ji12).toNat 32)) = ji14 := hji14
      have hji14z : (ji12) ≤ 32 → (IntKind.u32.wrap (a0 * 2 ^ (ji12).toNat)) = ji14 := shl_small hji14
      have c15b0 := eq_true (of_decide_eq_true (by first | (with_reducible assumption) | assumption) : 0 ≤ (ji12))
      obtain ⟨ji16, hji16⟩ : ∃ j_ : Int, (shr .u32 (ji14) (ji12)) = j_ := ⟨_, rfl⟩
      replace H : (if t201 = (ji16) then (if t205 = a0 then (if t209 = a0 then (if ((t195 == 32) == (a0 == 0)) = true then ((ferrylaw09_awake.f).bind fun t211 => (some t211)) else (some false)) else (some false)) else (some false)) else (some false)) = some true := by first | (rw [hji16] at H; exact H) | (simp only [hji16] at H ⊢; exact H)
      (try rw [hji16] at A3)
      (try rw [hji16] at A4)
      (try rw [hji16] at A5)
      (try rw [hji16] at A6)
      (try rw [hji16] at A7)
      (try rw [hji16] at A8)
      (try rw [hji16] at A9)
      (try rw [hji16] at A10)
      have hji16_ : ((ji14) / 2 ^ min (ji12).toNat 32) = ji16 := hji16
      have hji16z : (ji12) ≤ 32 → ((ji14) / 2 ^ (ji12).toNat) = ji16 := shr_small hji16
      by_cases c17 : t201 = (ji16)
      · rw [if_pos c17] at H
        have c17b0 : (t201 == (ji16)) = true := beq_iff_eq.mpr c17
        have c17b1 : (t201 != (ji16)) = false := bne_eq_false_iff_eq.mpr c17
        clear c17
        by_cases c18 : t205 = a0
        · rw [if_pos c18] at H
          have c18b0 : (t205 == a0) = true := beq_iff_eq.mpr c18
          have c18b1 : (t205 != a0) = false := bne_eq_false_iff_eq.mpr c18
          clear c18
          by_cases c19 : t209 = a0
          · rw [if_pos c19] at H
            have c19b0 : (t209 == a0) = true := beq_iff_eq.mpr c19
            have c19b1 : (t209 != a0) = false := bne_eq_false_iff_eq.mpr c19
            clear c19
            by_cases c20 : ((t195 == 32) == (a0 == 0)) = true
            · rw [if_pos c20] at H
              have c20b0 : ((t195 == 32) == (a0 == 0)) = true := c20
              (try (have c20b1 : decide ((t195 == 32) = (a0 == 0)) = true := by simpa using c20))
              (try (have c20b2 : ((t195 == 32) == (a0 == 0)) = true := by simpa using c20))
              clear c20
              replace H := Option.bind_eq_some_iff.mp H
              obtain ⟨t211, A210, H⟩ := H
              replace H : (some t211) = some true := H
              have A21 := Aside0.mk A210
              clear A210
              have hr_ : t211 = true := Option.some.inj H
              go_enter Tryd.func5, Tryd.ntmps5
              go_wp2_with (first | ((with_reducible refine gate_callee (f := 8) rfl ?_); refine goesL_ (some 27) rfl rfl Tryd.func8 (by kernel_rfl) rfl #[.string (⟨#[99, 108, 122]⟩ : ByteArray), .int .u32 a0, .int .u32 0] rfl (by (try simp only [List.map_toArray, List.map_cons, List.map_nil]); first | done | rfl | (simp only [List.length_drop, List.length_take]; rfl)) ?_; (with_reducible refine (ferrylaw09_of.calls (⟨#[99, 108, 122]⟩ : ByteArray) a0 0 t195 t196 _ ?side1 A3.out).mono ?_); (case side1 => first | with_reducible exact hL | exact Laid.below hL (by repeat (first | (with_reducible first | exact HB.out | apply below_alloc | apply pw_below_drewN | apply below_drew1) | exact HB.out))); rintro e w22 ⟨rfl, hb⟩; refine ⟨_, rfl, ?_⟩; have n0_ := Aside0.mk (below_step (by repeat (first | (with_reducible first | exact HB.out | apply below_alloc | apply pw_below_drewN | apply below_drew1) | exact HB.out)) hb); clear HB; have HB := n0_; clear n0_; (try clear hb); (try clear hb2); (try clear hk); (try clear hi)) | ((with_reducible refine gate_callee (f := 8) rfl ?_); refine goesL_ (some 33) rfl rfl Tryd.func8 (by kernel_rfl) rfl #[.string (⟨#[99, 108, 111]⟩ : ByteArray), .int .u32 (Go.bits .xor .u32 IntKind.u32.max a0), .int .u32 0] rfl (by (try simp only [List.map_toArray, List.map_cons, List.map_nil]); first | done | rfl | (simp only [List.length_drop, List.length_take]; rfl)) ?_; (with_reducible refine (ferrylaw09_of.calls (⟨#[99, 108, 111]⟩ : ByteArray) (Go.bits .xor .u32 IntKind.u32.max a0) 0 t197 t198 _ ?side1 A4.out).mono ?_); (case side1 => first | with_reducible exact hL | exact Laid.below hL (by repeat (first | (with_reducible first | exact HB.out | apply below_alloc | apply pw_below_drewN | apply below_drew1) | exact HB.out))); rintro e w23 ⟨rfl, hb⟩; refine ⟨_, rfl, ?_⟩; have n0_ := Aside0.mk (below_step (by repeat (first | (with_reducible first | exact HB.out | apply below_alloc | apply pw_below_drewN | apply below_drew1) | exact HB.out)) hb); clear HB; have HB := n0_; clear n0_; (try clear hb); (try clear hb2); (try clear hk); (try clear hi)) | ((with_reducible refine gate_callee (f := 10) rfl ?_); refine goesL_ (some 40) rfl rfl Tryd.func10 (by kernel_rfl) rfl #[.agg #[.string (⟨#[115, 108, 108]⟩ : ByteArray), .int .i64 0, .int .i64 0, .int .i64 0, .int .i64 ji12, .int .u32 0], .int .u32 0, .int .u32 a0] rfl (by (try simp only [List.map_toArray, List.map_cons, List.map_nil]); first | done | (simp only [hji12]; rfl) | rfl | (simp only [List.length_drop, List.length_take]; rfl)) ?_; (with_reducible refine (alu_Do.calls (⟨#[115, 108, 108]⟩ : ByteArray) 0 0 0 ji12 0 0 a0 t199 t200 _ ?side1 A5.out).mono ?_); (case side1 => first | with_reducible exact hL | exact Laid.below hL (by repeat (first | (with_reducible first | exact HB.out | apply below_alloc | apply pw_below_drewN | apply below_drew1) | exact HB.out))); rintro e w24 ⟨rfl, hb⟩; refine ⟨_, rfl, ?_⟩; have n0_ := Aside0.mk (below_step (by repeat (first | (with_reducible first | exact HB.out | apply below_alloc | apply pw_below_drewN | apply below_drew1) | exact HB.out)) hb); clear HB; have HB := n0_; clear n0_; (try clear hb); (try clear hb2); (try clear hk); (try clear hi)) | ((with_reducible refine gate_callee (f := 10) rfl ?_); refine goesL_ (some 47) rfl rfl Tryd.func10 (by kernel_rfl) rfl #[.agg #[.string (⟨#[115, 114, 108]⟩ : ByteArray), .int .i64 0, .int .i64 0, .int .i64 0, .int .i64 ji12, .int .u32 0], .int .u32 0, .int .u32 t199] rfl (by (try simp only [List.map_toArray, List.map_cons, List.map_nil]); first | done | (simp only [hji12]; rfl) | rfl | (simp only [List.length_drop, List.length_take]; rfl)) ?_; (with_reducible refine (alu_Do.calls (⟨#[115, 114, 108]⟩ : ByteArray) 0 0 0 ji12 0 0 t199 t201 t202 _ ?side1 A6.out).mono ?_); (case side1 => first | with_reducible exact hL | exact Laid.below hL (by repeat (first | (with_reducible first | exact HB.out | apply below_alloc | apply pw_below_drewN | apply below_drew1) | exact HB.out))); rintro e w25 ⟨rfl, hb⟩; refine ⟨_, rfl, ?_⟩; have n0_ := Aside0.mk (below_step (by repeat (first | (with_reducible first | exact HB.out | apply below_alloc | apply pw_below_drewN | apply below_drew1) | exact HB.out)) hb); clear HB; have HB := n0_; clear n0_; (try clear hb); (try clear hb2); (try clear hk); (try clear hi)) | ((with_reducible refine gate_callee (f := 8) rfl ?_); refine goesL_ (some 52) rfl rfl Tryd.func8 (by kernel_rfl) rfl #[.string (⟨#[119, 115, 98, 104]⟩ : ByteArray), .int .u32 0, .int .u32 a0] rfl (by (try simp only [List.map_toArray, List.map_cons, List.map_nil]); first | done | rfl | (simp only [List.length_drop, List.length_take]; rfl)) ?_; (with_reducible refine (ferrylaw09_of.calls (⟨#[119, 115, 98, 104]⟩ : ByteArray) 0 a0 t203 t204 _ ?side1 A7.out).mono ?_); (case side1 => first | with_reducible exact hL | exact Laid.below hL (by repeat (first | (with_reducible first | exact HB.out | apply below_alloc | apply pw_below_drewN | apply below_drew1) | exact HB.out))); rintro e w26 ⟨rfl, hb⟩; refine ⟨_, rfl, ?_⟩; have n0_ := Aside0.mk (below_step (by repeat (first | (with_reducible first | exact HB.out | apply below_alloc | apply pw_below_drewN | apply below_drew1) | exact HB.out)) hb); clear HB; have HB := n0_; clear n0_; (try clear hb); (try clear hb2); (try clear hk); (try clear hi)) | ((with_reducible refine gate_callee (f := 8) rfl ?_); refine goesL_ (some 57) rfl rfl Tryd.func8 (by kernel_rfl) rfl #[.string (⟨#[119, 115, 98, 104]⟩ : ByteArray), .int .u32 0, .int .u32 t203] rfl (by (try simp only [List.map_toArray, List.map_cons, List.map_nil]); first | done | rfl | (simp only [List.length_drop, List.length_take]; rfl)) ?_; (with_reducible refine (ferrylaw09_of.calls (⟨#[119, 115, 98, 104]⟩ : ByteArray) 0 t203 t205 t206 _ ?side1 A8.out).mono ?_); (case side1 => first | with_reducible exact hL | exact Laid.below hL (by repeat (first | (with_reducible first | exact HB.out | apply below_alloc | apply pw_below_drewN | apply below_drew1) | exact HB.out))); rintro e w27 ⟨rfl, hb⟩; refine ⟨_, rfl, ?_⟩; have n0_ := Aside0.mk (below_step (by repeat (first | (with_reducible first | exact HB.out | apply below_alloc | apply pw_below_drewN | apply below_drew1) | exact HB.out)) hb); clear HB; have HB := n0_; clear n0_; (try clear hb); (try clear hb2); (try clear hk); (try clear hi)) | ((with_reducible refine gate_callee (f := 10) rfl ?_); refine goesL_ (some 64) rfl rfl Tryd.func10 (by kernel_rfl) rfl #[.agg #[.string (⟨#[114, 111, 116, 114]⟩ : ByteArray), .int .i64 0, .int .i64 0, .int .i64 0, .int .i64 ji12, .int .u32 0], .int .u32 0, .int .u32 a0] rfl (by (try simp only [List.map_toArray, List.map_cons, List.map_nil]); first | done | (simp only [hji12]; rfl) | rfl | (simp only [List.length_drop, List.length_take]; rfl)) ?_; (with_reducible refine (alu_Do.calls (⟨#[114, 111, 116, 114]⟩ : ByteArray) 0 0 0 ji12 0 0 a0 t207 t208 _ ?side1 A9.out).mono ?_); (case side1 => first | with_reducible exact hL | exact Laid.below hL (by repeat (first | (with_reducible first | exact HB.out | apply below_alloc | apply pw_below_drewN | apply below_drew1) | exact HB.out))); rintro e w28 ⟨rfl, hb⟩; refine ⟨_, rfl, ?_⟩; have n0_ := Aside0.mk (below_step (by repeat (first | (with_reducible first | exact HB.out | apply below_alloc | apply pw_below_drewN | apply below_drew1) | exact HB.out)) hb); clear HB; have HB := n0_; clear n0_; (try clear hb); (try clear hb2); (try clear hk); (try clear hi)) | ((with_reducible refine gate_callee (f := 10) rfl ?_); refine goesL_ (some 73) rfl rfl Tryd.func10 (by kernel_rfl) rfl #[.agg #[.string (⟨#[114, 111, 116, 114]⟩ : ByteArray), .int .i64 0, .int .i64 0, .int .i64 0, .int .i64 (Int.tmod (wrap64 (32 - (ji12))) 32), .int .u32 0], .int .u32 0, .int .u32 t207] rfl (by (try simp only [List.map_toArray, List.map_cons, List.map_nil]); first | done | (simp only [hji12]; rfl) | rfl | (simp only [List.length_drop, List.length_take]; rfl)) ?_; (with_reducible refine (alu_Do.calls (⟨#[114, 111, 116, 114]⟩ : ByteArray) 0 0 0 (Int.tmod (wrap64 (32 - (ji12))) 32) 0 0 t207 t209 t210 _ ?side1 A10.out).mono ?_); (case side1 => first | with_reducible exact hL | exact Laid.below hL (by repeat (first | (with_reducible first | exact HB.out | apply below_alloc | apply pw_below_drewN | apply below_drew1) | exact HB.out))); rintro e w29 ⟨rfl, hb⟩; refine ⟨_, rfl, ?_⟩; have n0_ := Aside0.mk (below_step (by repeat (first | (with_reducible first | exact HB.out | apply below_alloc | apply pw_below_drewN | apply below_drew1) | exact HB.out)) hb); clear HB; have HB := n0_; clear n0_; (try clear hb); (try clear hb2); (try clear hk); (try clear hi)) | (go_at_call 9; (with_reducible refine (ferrylaw09_awake.calls  t211 _ ?side1 A21.out).mono ?_); (case side1 => first | with_reducible exact hL | exact Laid.below hL (by repeat (first | (with_reducible first | exact HB.out | apply below_alloc | apply pw_below_drewN | apply below_drew1) | exact HB.out))); rintro e w30 ⟨rfl, hb⟩; have n0_ := Aside0.mk (below_step (by repeat (first | (with_reducible first | exact HB.out | apply below_alloc | apply pw_below_drewN | apply below_drew1) | exact HB.out)) hb); clear HB; have HB := n0_; clear n0_; (try clear hb); (try clear hb2); (try clear hk); (try clear hi)))
              go_ret
              exact ⟨by first | rfl | (simp [errW_none, errW_some] <;> rfl) | (simp only [← hji12, ← hji14, ← hji16]; first | rfl | (simp [errW_none, errW_some] <;> rfl)) | (simp [*, errW_none, errW_some] <;> rfl), by repeat (first | (with_reducible first | exact HB.out | apply below_alloc | apply pw_below_drewN | apply below_drew1) | exact HB.out)⟩
            · rw [if_neg c20] at H
              have c20b0 : ((t195 == 32) == (a0 == 0)) = false := by simpa using c20
              (try (have c20b1 : decide ((t195 == 32) = (a0 == 0)) = false := by simpa using c20))
              (try (have c20b2 : ((t195 == 32) == (a0 == 0)) = false := by simpa using c20))
              (try (have c20b3 : ¬ ((t195 == 32) = (a0 == 0)) := by simpa using c20))
              clear c20
              cases H
          · rw [if_neg c19] at H
            have c19b0 : (t209 == a0) = false := beq_eq_false_iff_ne.mpr c19
            have c19b1 : (t209 != a0) = true := bne_iff_ne.mpr c19
            cases H
        · rw [if_neg c18] at H
          have c18b0 : (t205 == a0) = false := beq_eq_false_iff_ne.mpr c18
          have c18b1 : (t205 != a0) = true := bne_iff_ne.mpr c18
          cases H
      · rw [if_neg c17] at H
        have c17b0 : (t201 == (ji16)) = false := beq_eq_false_iff_ne.mpr c17
        have c17b1 : (t201 != (ji16)) = true := bne_iff_ne.mpr c17
        cases H
    · rw [if_neg c13] at H
      exact absurd H (by simp)
  · rw [if_neg c11] at H
    have c11b0 : (t195 == t197) = false := beq_eq_false_iff_ne.mpr c11
    have c11b1 : (t195 != t197) = true := bne_iff_ne.mpr c11
    cases H
end Go.Proofs.YtnddjndgfaefaaaDoor.F
end
