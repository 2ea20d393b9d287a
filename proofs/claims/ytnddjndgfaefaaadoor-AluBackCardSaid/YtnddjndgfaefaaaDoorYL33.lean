import Derived.Below
import Derived.Deep.Draws
import Derived.Deep.AppendLies
import Derived.Maps.AppendAt
import Derived.OwnWalk
import Derived.Laws.BytesArg
import Derived.Laws.MakeOwn
import Derived.Laws.OwnMore
import Derived.Deep.OwnRows
import Derived.Tactics
import Derived.Lib.ConvBytes
import Derived.Laws.Slices
import Derived.WalkKit
import Derived.KernelRfl
import Derived.RowKit3
import Derived.Deep.LoopGhost
import Derived.Deep.QuietTactic
import Derived.BigQuiet
import Derived.WideLaws
import Derived.Deep.DeepCutAuto
import Derived.Deep.CutBlock
import Derived.Deep.RegionHeld3
import Derived.Laws.Rows
import Derived.Lib.AppendStr
import Derived.ArgAppend
import Derived.Laws.IdiomCopy
import Derived.RowKit
import Derived.OrdersHeld
import Derived.Laws.BitsLemmas
import Derived.Laws.StructEq
import Derived.WalkLawsBesides
import Derived.Shelf.Abstract
import Derived.Shelf.RegionOpen
import Derived.RangeFuncRecord
import Derived.OwnWalkIn
import Derived.ProofKit
import Derived.Lib.Hide
import Derived.Shelf.Small.Bits
import Derived.Shelf.LaysM
import Derived.Shelf.Strings.Fields
import Derived.Shelf.Strings.Replace
import Derived.Shelf.Strings.SplitShaped
import Derived.Lib.LaidTab
import Derived.Maps.OwnOps
import Derived.WalkSmall
import Derived.Laws.ResultCell
import Derived.Deep.RegionWith
import Derived.Defers
import Derived.Recover
import Derived.Tactics2
import Derived.OpenShut
import Derived.Deep.Slices
import Derived.SizedLaws
import Derived.Lib.ItoaNum
import Derived.Test.YtnddjndgfaefaaaDoorZF0
import Derived.Test.YtnddjndgfaefaaaDoorYA0
import Derived.Test.YtnddjndgfaefaaaDoorYA14FDecEncode
import Derived.Test.YtnddjndgfaefaaaDoorYA17FFerrylaw09Of
import Derived.Test.YtnddjndgfaefaaaDoorYA21
import Derived.Test.YtnddjndgfaefaaaDoorYB22
import Derived.Test.YtnddjndgfaefaaaDoorYC23PAlu5
import Derived.Test.YtnddjndgfaefaaaDoorYE25
import Derived.Test.YtnddjndgfaefaaaDoorYG27
import Derived.Test.YtnddjndgfaefaaaDoorYL32FFerrylaw09AluBack
section
namespace Go.Proofs.YtnddjndgfaefaaaDoor.F
open Go.RowKit Go.Proofs.YtnddjndgfaefaaaDoorW.PrintWords Go.Proofs.YtnddjndgfaefaaaDoorW.PrintLast Go.Proofs.YtnddjndgfaefaaaDoorW.PrintMore
def ferrylaw09_AluBack.Pure : Prop :=
  ∀ (a0 : Int) (a1 : Int), (0 ≤ a0 ∧ a0 ≤ 4294967295) → (0 ≤ a1 ∧ a1 ≤ 4294967295) → ∃ k, ferrylaw09_AluBack.f k a0 a1 = some true
end Go.Proofs.YtnddjndgfaefaaaDoor.F
end
section
namespace Go.Proofs.YtnddjndgfaefaaaDoor.F
set_option linter.unusedVariables false
set_option linter.unusedSimpArgs false
open Go.RowKit Go.Proofs.YtnddjndgfaefaaaDoorW.PrintWords Go.Proofs.YtnddjndgfaefaaaDoorW.PrintLast Go.Proofs.YtnddjndgfaefaaaDoorW.PrintMore

theorem encz_addu : ((dec_Encode.f ⟨#[97, 100, 100, 117]⟩ 0 0 0 0 0).map (·.2) == some true) = true := by decide +kernel
theorem of_addu (s t : Int) (s0 : 0 ≤ s) (s1 : s ≤ 4294967295) (t0 : 0 ≤ t) (t1 : t ≤ 4294967295) : ferrylaw09_of.f ⟨#[97, 100, 100, 117]⟩ s t = some ((s + t) % 4294967296, true) := by
  obtain ⟨v, he⟩ := enc_get encz_addu
  unfold ferrylaw09_of.f
  rw [aval_addu 0 0 0 0 0 s t v s0 s1 t0 t1 (by decide) (by decide) (by decide) (by decide) (by decide) (by decide) he, Option.bind_some]
theorem encz_subu : ((dec_Encode.f ⟨#[115, 117, 98, 117]⟩ 0 0 0 0 0).map (·.2) == some true) = true := by decide +kernel
theorem of_subu (s t : Int) (s0 : 0 ≤ s) (s1 : s ≤ 4294967295) (t0 : 0 ≤ t) (t1 : t ≤ 4294967295) : ferrylaw09_of.f ⟨#[115, 117, 98, 117]⟩ s t = some ((s - t) % 4294967296, true) := by
  obtain ⟨v, he⟩ := enc_get encz_subu
  unfold ferrylaw09_of.f
  rw [aval_subu 0 0 0 0 0 s t v s0 s1 t0 t1 (by decide) (by decide) (by decide) (by decide) (by decide) (by decide) he, Option.bind_some]
theorem encz_add : ((dec_Encode.f ⟨#[97, 100, 100]⟩ 0 0 0 0 0).map (·.2) == some true) = true := by decide +kernel
theorem of_add (s t : Int) (s0 : 0 ≤ s) (s1 : s ≤ 4294967295) (t0 : 0 ≤ t) (t1 : t ≤ 4294967295) : ferrylaw09_of.f ⟨#[97, 100, 100]⟩ s t = some (if sumOver s t = true then ((0 : Int), false) else ((s + t) % 4294967296, true)) := by
  obtain ⟨v, he⟩ := enc_get encz_add
  unfold ferrylaw09_of.f
  rw [aval_add 0 0 0 0 0 s t v s0 s1 t0 t1 (by decide) (by decide) (by decide) (by decide) (by decide) (by decide) he, Option.bind_some]
theorem encz_sub : ((dec_Encode.f ⟨#[115, 117, 98]⟩ 0 0 0 0 0).map (·.2) == some true) = true := by decide +kernel
theorem of_sub (s t : Int) (s0 : 0 ≤ s) (s1 : s ≤ 4294967295) (t0 : 0 ≤ t) (t1 : t ≤ 4294967295) : ferrylaw09_of.f ⟨#[115, 117, 98]⟩ s t = some (if lessOver s t = true then ((0 : Int), false) else ((s - t) % 4294967296, true)) := by
  obtain ⟨v, he⟩ := enc_get encz_sub
  unfold ferrylaw09_of.f
  rw [aval_sub 0 0 0 0 0 s t v s0 s1 t0 t1 (by decide) (by decide) (by decide) (by decide) (by decide) (by decide) he, Option.bind_some]
theorem encz_nor : ((dec_Encode.f ⟨#[110, 111, 114]⟩ 0 0 0 0 0).map (·.2) == some true) = true := by decide +kernel
theorem of_nor (s t : Int) (s0 : 0 ≤ s) (s1 : s ≤ 4294967295) (t0 : 0 ≤ t) (t1 : t ≤ 4294967295) : ferrylaw09_of.f ⟨#[110, 111, 114]⟩ s t = some (4294967295 - Go.bits .or .u32 s t, true) := by
  obtain ⟨v, he⟩ := enc_get encz_nor
  unfold ferrylaw09_of.f
  rw [aval_nor 0 0 0 0 0 s t v s0 s1 t0 t1 (by decide) (by decide) (by decide) (by decide) (by decide) (by decide) he, Option.bind_some]
theorem encz_or : ((dec_Encode.f ⟨#[111, 114]⟩ 0 0 0 0 0).map (·.2) == some true) = true := by decide +kernel
theorem of_or (s t : Int) (s0 : 0 ≤ s) (s1 : s ≤ 4294967295) (t0 : 0 ≤ t) (t1 : t ≤ 4294967295) : ferrylaw09_of.f ⟨#[111, 114]⟩ s t = some (Go.bits .or .u32 s t, true) := by
  obtain ⟨v, he⟩ := enc_get encz_or
  unfold ferrylaw09_of.f
  rw [aval_or 0 0 0 0 0 s t v s0 s1 t0 t1 (by decide) (by decide) (by decide) (by decide) (by decide) (by decide) he, Option.bind_some]
end Go.Proofs.YtnddjndgfaefaaaDoor.F
end
section
namespace Go.Proofs.YtnddjndgfaefaaaDoor.F
set_option linter.unusedVariables false
set_option linter.unusedSimpArgs false
open Go.RowKit Go.Proofs.YtnddjndgfaefaaaDoorW.PrintWords Go.Proofs.YtnddjndgfaefaaaDoorW.PrintLast Go.Proofs.YtnddjndgfaefaaaDoorW.PrintMore
theorem or_not (x : Nat) (hx : x < 2 ^ 32) : x ||| (4294967295 - x) = 4294967295 := by
  apply Nat.eq_of_testBit_eq
  intro i
  rw [show 4294967295 - x = 2 ^ 32 - (x + 1) from by omega, Nat.testBit_or, Nat.testBit_two_pow_sub_succ hx, show (4294967295 : Nat) = 2 ^ 32 - 1 from rfl, Nat.testBit_two_pow_sub_one]
  by_cases h : i < 32
  · rw [decide_eq_true h]
    cases x.testBit i <;> rfl
  · rw [decide_eq_false h, Nat.testBit_lt_two_pow (Nat.lt_of_lt_of_le hx (Nat.pow_le_pow_right (by decide) (by omega)))]
    rfl
theorem and_not (x : Nat) (hx : x < 2 ^ 32) : (4294967295 - x) &&& x = 0 := by
  apply Nat.eq_of_testBit_eq
  intro i
  rw [show 4294967295 - x = 2 ^ 32 - (x + 1) from by omega, Nat.testBit_and, Nat.testBit_two_pow_sub_succ hx, Nat.zero_testBit]
  cases x.testBit i <;> simp
theorem AluBack_pure : ferrylaw09_AluBack.Pure := by
  intro s t hs ht
  refine ⟨40, ?_⟩
  unfold ferrylaw09_AluBack.f
  have a0 : 0 ≤ (s + t) % 4294967296 ∧ (s + t) % 4294967296 ≤ 4294967295 := by omega
  obtain ⟨x, rfl, hx⟩ := nat_of hs.1 hs.2
  have hxx : Go.bits .or .u32 (x : Int) (x : Int) = x := by rw [(bits_nat32 x x hx hx).2.1, Nat.or_self]
  have hor : Go.bits .or .u32 (x : Int) (4294967295 - (x : Int)) = 4294967295 := by
    rw [show (4294967295 - (x : Int)) = ((4294967295 - x : Nat) : Int) from by omega, (bits_nat32 x (4294967295 - x) hx (by omega)).2.1, or_not x hx]
    rfl
  have hand : Go.bits .and .u32 (4294967295 - (x : Int)) (x : Int) = 0 := by
    rw [show (4294967295 - (x : Int)) = ((4294967295 - x : Nat) : Int) from by omega, (bits_nat32 (4294967295 - x) x (by omega) hx).1, and_not x hx]
    rfl
  generalize hsum : ((x : Int) + t) % 4294967296 = u at a0
  rw [of_addu x t hs.1 hs.2 ht.1 ht.2, hsum, Option.bind_some, of_subu u t a0.1 a0.2 ht.1 ht.2, Option.bind_some, of_add x t hs.1 hs.2 ht.1 ht.2, hsum, Option.bind_some, of_sub u t a0.1 a0.2 ht.1 ht.2, Option.bind_some, of_nor x x hs.1 hs.2 hs.1 hs.2, hxx, Option.bind_some, of_or x (4294967295 - (x : Int)) hs.1 hs.2 (by omega) (by omega), hor, Option.bind_some]
  have hd : (u - t) % 4294967296 = (x : Int) := by omega
  rw [hd]
  dsimp only
  rw [hand, if_pos rfl, if_pos rfl, if_pos rfl, if_pos rfl, if_pos rfl, if_pos rfl]
  have hA := sumOver_iff hs.1 hs.2 ht.1 ht.2
  have hB := lessOver_iff a0.1 a0.2 ht.1 ht.2
  have cs : ∀ z : Int, 0 ≤ z → z ≤ 4294967295 → (z < 2147483648 ∧ wrap32 z = z) ∨ (2147483648 ≤ z ∧ wrap32 z = z - 4294967296) := by
    intro z z0 z1
    have := w32_of z z0 z1
    split at this <;> omega
  have w1 := cs (x : Int) hs.1 hs.2
  have w2 := cs t ht.1 ht.2
  have w3 := cs u a0.1 a0.2
  unfold sumOut at hA
  unfold lessOut at hB
  simp only [ferrylaw09_AluBack.j0]
  generalize wrap32 (x : Int) = A at w1 hA ⊢
  generalize wrap32 t = B at w2 hA hB ⊢
  generalize wrap32 u = C at w3 hB ⊢
  have key : sumOver (x : Int) t = lessOver u t := by
    rw [Bool.eq_iff_iff, hA, hB]
    omega
  have hwide : (wrap64 (wrap64 A + wrap64 B) == wrap64 C) = !sumOver (x : Int) t := by
    have e1 : wrap64 (wrap64 A + wrap64 B) = A + B := by
      rw [w64_id (n := A) (by omega) (by omega), w64_id (n := B) (by omega) (by omega), w64_id (by omega) (by omega)]
    have e2 : wrap64 C = C := w64_id (by omega) (by omega)
    rw [e1, e2]
    by_cases ho : sumOver (x : Int) t = true
    · have h := hA.1 ho
      rw [ho]
      refine beq_eq_false_iff_ne.2 ?_
      omega
    · have hn : ¬ (A + B < -2147483648 ∨ A + B > 2147483647) := fun h => ho (hA.2 h)
      clear hA hB key hd hor hand hxx
      rw [show sumOver (x : Int) t = false from by cases hh : sumOver (x : Int) t; rfl; exact absurd hh ho]
      refine beq_iff_eq.2 ?_
      omega
  rw [hwide, ← key]
  clear hwide key hA hB w1 w2 w3 hor hand hxx
  cases sumOver (x : Int) t
  · simp only [Bool.false_eq_true, if_false, if_true, Bool.not_false, bne_self_eq_false, alu_awake, Option.bind_some]
  · simp only [Bool.false_eq_true, if_false, if_true, Bool.not_true, bne_self_eq_false, alu_awake, Option.bind_some]
end Go.Proofs.YtnddjndgfaefaaaDoor.F
end
