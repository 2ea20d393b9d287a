import Derived.Below
import Derived.Deep.Draws
import Derived.Deep.AppendLies
import Derived.Maps.AppendAt
import Derived.OwnWalk
import Derived.Laws.BytesArg
import Derived.Laws.MakeOwn
import Derived.Laws.OwnMore
import Derived.Deep.OwnRows
import Derived.Tactics
import Derived.Lib.ConvBytes
import Derived.Laws.Slices
import Derived.WalkKit
import Derived.KernelRfl
import Derived.RowKit3
import Derived.Deep.LoopGhost
import Derived.Deep.QuietTactic
import Derived.BigQuiet
import Derived.WideLaws
import Derived.Deep.DeepCutAuto
import Derived.Deep.CutBlock
import Derived.Deep.RegionHeld3
import Derived.Laws.Rows
import Derived.Lib.AppendStr
import Derived.ArgAppend
import Derived.Laws.IdiomCopy
import Derived.RowKit
import Derived.OrdersHeld
import Derived.Laws.BitsLemmas
import Derived.Laws.StructEq
import Derived.WalkLawsBesides
import Derived.Shelf.Abstract
import Derived.Shelf.RegionOpen
import Derived.RangeFuncRecord
import Derived.OwnWalkIn
import Derived.ProofKit
import Derived.Lib.Hide
import Derived.Shelf.Small.Bits
import Derived.Shelf.LaysM
import Derived.Shelf.Strings.Fields
import Derived.Shelf.Strings.Replace
import Derived.Shelf.Strings.SplitShaped
import Derived.Lib.LaidTab
import Derived.Maps.OwnOps
import Derived.WalkSmall
import Derived.Laws.ResultCell
import Derived.Deep.RegionWith
import Derived.Defers
import Derived.Recover
import Derived.Tactics2
import Derived.Lib.ItoaNum
import Derived.Test.YtnddjndgfaefaaaDoorZF0
import Derived.Test.YtnddjndgfaefaaaDoorYA0
import Derived.Test.YtnddjndgfaefaaaDoorYA4
import Derived.Test.YtnddjndgfaefaaaDoorYA7FAluBoth
import Derived.Test.YtnddjndgfaefaaaDoorYA14FDecEncode
import Derived.Test.YtnddjndgfaefaaaDoorYA15FDecForm
import Derived.Test.YtnddjndgfaefaaaDoorYA16HAluDo
import Derived.Test.YtnddjndgfaefaaaDoorYA21
import Derived.Test.YtnddjndgfaefaaaDoorYB22
import Derived.Test.YtnddjndgfaefaaaDoorYD24PAlu1
import Derived.Test.YtnddjndgfaefaaaDoorYE25
section
namespace Go.Proofs.YtnddjndgfaefaaaDoor.F
set_option linter.unusedVariables false
open Go.RowKit Go.Proofs.YtnddjndgfaefaaaDoorW.PrintWords Go.Proofs.YtnddjndgfaefaaaDoorW.PrintLast Go.Proofs.YtnddjndgfaefaaaDoorW.PrintMore
theorem bit_xor (p q : Nat) (hp : p < 2) (hq : q < 2) : p ^^^ q = if p = q then 0 else 1 := by
  have h1 : p = 0 ∨ p = 1 := by omega
  have h2 : q = 0 ∨ q = 1 := by omega
  rcases h1 with rfl | rfl <;> rcases h2 with rfl | rfl <;> rfl
theorem bit_and (p q : Nat) (hp : p < 2) (hq : q < 2) : p &&& q = if p = 1 ∧ q = 1 then 1 else 0 := by
  have h1 : p = 0 ∨ p = 1 := by omega
  have h2 : q = 0 ∨ q = 1 := by omega
  rcases h1 with rfl | rfl <;> rcases h2 with rfl | rfl <;> rfl
theorem xor_hi (x y : Nat) : (x ^^^ y) / 2147483648 = (x / 2147483648) ^^^ (y / 2147483648) := by
  have := Nat.shiftRight_xor_distrib (a := x) (b := y) (i := 31)
  simpa [Nat.shiftRight_eq_div_pow] using this
theorem and_hi (x y : Nat) : (x &&& y) / 2147483648 = (x / 2147483648) &&& (y / 2147483648) := by
  have := Nat.shiftRight_and_distrib (a := x) (b := y) (i := 31)
  simpa [Nat.shiftRight_eq_div_pow] using this
def sumOut (a b : Int) : Prop := wrap32 a + wrap32 b < -2147483648 ∨ wrap32 a + wrap32 b > 2147483647
def lessOut (a b : Int) : Prop := wrap32 a - wrap32 b < -2147483648 ∨ wrap32 a - wrap32 b > 2147483647
theorem over_bits (x y z : Nat) (hx : x < 4294967296) (hy : y < 4294967296) (hz : z < 4294967296) :
    (Go.bits .and .u32 (Go.bits .xor .u32 (x : Int) (z : Int)) (Go.bits .xor .u32 (y : Int) (z : Int)) / 2147483648 == 1) = true ↔ x / 2147483648 ≠ z / 2147483648 ∧ y / 2147483648 ≠ z / 2147483648 := by
  rw [(bits_nat32 x z hx hz).2.2, (bits_nat32 y z hy hz).2.2, (bits_nat32 (x ^^^ z) (y ^^^ z) (Nat.xor_lt_two_pow (n := 32) hx hz) (Nat.xor_lt_two_pow (n := 32) hy hz)).1]
  have e := and_hi (x ^^^ z) (y ^^^ z)
  rw [xor_hi, xor_hi, bit_xor (x / 2147483648) (z / 2147483648) (by omega) (by omega), bit_xor (y / 2147483648) (z / 2147483648) (by omega) (by omega), bit_and (if x / 2147483648 = z / 2147483648 then 0 else 1) (if y / 2147483648 = z / 2147483648 then 0 else 1) (by split <;> omega) (by split <;> omega)] at e
  rw [beq_iff_eq]
  generalize (x ^^^ z) &&& (y ^^^ z) = q at e ⊢
  by_cases h1 : x / 2147483648 = z / 2147483648
  · rw [if_pos h1, if_neg (fun h => absurd h.1 (by decide))] at e
    constructor
    · intro h3
      omega
    · intro h3
      exact absurd h1 h3.1
  · by_cases h2 : y / 2147483648 = z / 2147483648
    · rw [if_pos h2, if_neg (fun h => absurd h.2 (by decide))] at e
      constructor
      · intro h3
        omega
      · intro h3
        exact absurd h2 h3.2
    · rw [if_neg h1, if_neg h2, if_pos ⟨rfl, rfl⟩] at e
      constructor
      · intro _
        exact ⟨h1, h2⟩
      · intro _
        omega
theorem over_bits2 (x y z : Nat) (hx : x < 4294967296) (hy : y < 4294967296) (hz : z < 4294967296) :
    (Go.bits .and .u32 (Go.bits .xor .u32 (x : Int) (y : Int)) (Go.bits .xor .u32 (x : Int) (z : Int)) / 2147483648 == 1) = true ↔ x / 2147483648 ≠ y / 2147483648 ∧ x / 2147483648 ≠ z / 2147483648 := by
  rw [(bits_nat32 x y hx hy).2.2, (bits_nat32 x z hx hz).2.2, (bits_nat32 (x ^^^ y) (x ^^^ z) (Nat.xor_lt_two_pow (n := 32) hx hy) (Nat.xor_lt_two_pow (n := 32) hx hz)).1]
  have e := and_hi (x ^^^ y) (x ^^^ z)
  rw [xor_hi, xor_hi, bit_xor (x / 2147483648) (y / 2147483648) (by omega) (by omega), bit_xor (x / 2147483648) (z / 2147483648) (by omega) (by omega), bit_and (if x / 2147483648 = y / 2147483648 then 0 else 1) (if x / 2147483648 = z / 2147483648 then 0 else 1) (by split <;> omega) (by split <;> omega)] at e
  rw [beq_iff_eq]
  generalize (x ^^^ y) &&& (x ^^^ z) = q at e ⊢
  by_cases h1 : x / 2147483648 = y / 2147483648
  · rw [if_pos h1, if_neg (fun h => absurd h.1 (by decide))] at e
    constructor
    · intro h3
      omega
    · intro h3
      exact absurd h1 h3.1
  · by_cases h2 : x / 2147483648 = z / 2147483648
    · rw [if_pos h2, if_neg (fun h => absurd h.2 (by decide))] at e
      constructor
      · intro h3
        omega
      · intro h3
        exact absurd h2 h3.2
    · rw [if_neg h1, if_neg h2, if_pos ⟨rfl, rfl⟩] at e
      constructor
      · intro _
        exact ⟨h1, h2⟩
      · intro _
        omega
theorem sumOver_iff {a b : Int} (a0 : 0 ≤ a) (a1 : a ≤ 4294967295) (b0 : 0 ≤ b) (b1 : b ≤ 4294967295) : sumOver a b = true ↔ sumOut a b := by
  unfold sumOver sumOut
  rw [w32_of a a0 a1, w32_of b b0 b1]
  obtain ⟨x, rfl, hx⟩ := nat_of a0 a1
  obtain ⟨y, rfl, hy⟩ := nat_of b0 b1
  rw [show ((x : Int) + (y : Int)) % 4294967296 = (((x + y) % 4294967296 : Nat) : Int) from by omega, over_bits x y _ hx hy (by omega)]
  split <;> split <;> omega
theorem lessOver_iff {a b : Int} (a0 : 0 ≤ a) (a1 : a ≤ 4294967295) (b0 : 0 ≤ b) (b1 : b ≤ 4294967295) : lessOver a b = true ↔ lessOut a b := by
  unfold lessOver lessOut
  rw [w32_of a a0 a1, w32_of b b0 b1]
  obtain ⟨x, rfl, hx⟩ := nat_of a0 a1
  obtain ⟨y, rfl, hy⟩ := nat_of b0 b1
  rw [show ((x : Int) - (y : Int)) % 4294967296 = (((x + (4294967296 - y)) % 4294967296 : Nat) : Int) from by omega, over_bits2 x y _ hx hy (by omega)]
  split <;> split <;> omega
theorem bits_range (o : BinOp) (ho : o = .and ∨ o = .or ∨ o = .xor) {a b : Int} (a0 : 0 ≤ a) (a1 : a ≤ 4294967295) (b0 : 0 ≤ b) (b1 : b ≤ 4294967295) : 0 ≤ Go.bits o .u32 a b ∧ Go.bits o .u32 a b ≤ 4294967295 := by
  obtain ⟨x, rfl, hx⟩ := nat_of a0 a1
  obtain ⟨y, rfl, hy⟩ := nat_of b0 b1
  have h := bits_nat32 x y hx hy
  rcases ho with rfl | rfl | rfl
  · rw [h.1]
    have : x &&& y ≤ x := Nat.and_le_left
    omega
  · rw [h.2.1]
    have : x ||| y < 2 ^ 32 := Nat.or_lt_two_pow hx hy
    omega
  · rw [h.2.2]
    have : x ^^^ y < 2 ^ 32 := Nat.xor_lt_two_pow hx hy
    omega
end Go.Proofs.YtnddjndgfaefaaaDoor.F
end
section
namespace Go.Proofs.YtnddjndgfaefaaaDoor.F
set_option linter.unusedVariables false
set_option linter.unusedSimpArgs false
open Go.RowKit Go.Proofs.YtnddjndgfaefaaaDoorW.PrintWords Go.Proofs.YtnddjndgfaefaaaDoorW.PrintLast Go.Proofs.YtnddjndgfaefaaaDoorW.PrintMore
attribute [local irreducible] dec_Encode.f dec_Form.f ferryref07_Encode.f
theorem aform_add : dec_Form.f ⟨#[97, 100, 100]⟩ = some ⟨#[100, 115, 116]⟩ := by decide +kernel
theorem aform_sub : dec_Form.f ⟨#[115, 117, 98]⟩ = some ⟨#[100, 115, 116]⟩ := by decide +kernel
theorem aform_addu : dec_Form.f ⟨#[97, 100, 100, 117]⟩ = some ⟨#[100, 115, 116]⟩ := by decide +kernel
theorem aform_subu : dec_Form.f ⟨#[115, 117, 98, 117]⟩ = some ⟨#[100, 115, 116]⟩ := by decide +kernel
theorem aform_or : dec_Form.f ⟨#[111, 114]⟩ = some ⟨#[100, 115, 116]⟩ := by decide +kernel
theorem aform_nor : dec_Form.f ⟨#[110, 111, 114]⟩ = some ⟨#[100, 115, 116]⟩ := by decide +kernel
theorem l_add : (⟨#[97, 100, 100]⟩ : ByteArray).toList = [97, 100, 100] := lb _
theorem l_addu : (⟨#[97, 100, 100, 117]⟩ : ByteArray).toList = [97, 100, 100, 117] := lb _
theorem l_nor : (⟨#[110, 111, 114]⟩ : ByteArray).toList = [110, 111, 114] := lb _
theorem l_or : (⟨#[111, 114]⟩ : ByteArray).toList = [111, 114] := lb _
theorem l_sub : (⟨#[115, 117, 98]⟩ : ByteArray).toList = [115, 117, 98] := lb _
theorem l_subu : (⟨#[115, 117, 98, 117]⟩ : ByteArray).toList = [115, 117, 98, 117] := lb _
set_option maxHeartbeats 2000000 in
theorem aval_add (x1 x2 d a i s t v : Int) (s0 : 0 ≤ s) (s1 : s ≤ 4294967295) (t0 : 0 ≤ t) (t1 : t ≤ 4294967295) (i0 : 0 ≤ i) (i1 : i ≤ 4294967295) (d0 : 0 ≤ d) (d1 : d < 32) (a0 : 0 ≤ a) (a1 : a < 32) (he : dec_Encode.f ⟨#[97, 100, 100]⟩ x1 x2 d a i = some (v, true)) :
    alu_Do.f ⟨#[97, 100, 100]⟩ x1 x2 d a i s t = some (if sumOver s t = true then ((0 : Int), false) else ((s + t) % 4294967296, true)) := by
  unfold alu_Do.f
  rw [he, Option.bind_some]
  dsimp only
  rw [if_pos rfl, if_pos (show (⟨#[97, 100, 100]⟩ : ByteArray).toList ∈ aluNames from by rw [l_add]; decide), aform_add, Option.bind_some]
  rw [l_dst, if_neg (by decide), if_neg (by decide), if_neg (by decide), if_neg (by decide), if_neg (by decide), if_neg (by decide)]
  by_cases ho : sumOver s t = true
  · rw [if_pos ⟨l_add, ho⟩, if_pos ho]
  · rw [if_neg (fun h => ho h.2), if_neg (fun h => absurd h.1 (by rw [l_add]; decide)), if_neg ho]
    unfold alu_both.f
    rw [l_add, if_pos rfl]
    unfold alu_sum.f
    rw [if_neg ho]
    rfl
set_option maxHeartbeats 2000000 in
theorem aval_sub (x1 x2 d a i s t v : Int) (s0 : 0 ≤ s) (s1 : s ≤ 4294967295) (t0 : 0 ≤ t) (t1 : t ≤ 4294967295) (i0 : 0 ≤ i) (i1 : i ≤ 4294967295) (d0 : 0 ≤ d) (d1 : d < 32) (a0 : 0 ≤ a) (a1 : a < 32) (he : dec_Encode.f ⟨#[115, 117, 98]⟩ x1 x2 d a i = some (v, true)) :
    alu_Do.f ⟨#[115, 117, 98]⟩ x1 x2 d a i s t = some (if lessOver s t = true then ((0 : Int), false) else ((s - t) % 4294967296, true)) := by
  unfold alu_Do.f
  rw [he, Option.bind_some]
  dsimp only
  rw [if_pos rfl, if_pos (show (⟨#[115, 117, 98]⟩ : ByteArray).toList ∈ aluNames from by rw [l_sub]; decide), aform_sub, Option.bind_some]
  rw [l_dst, if_neg (by decide), if_neg (by decide), if_neg (by decide), if_neg (by decide), if_neg (by decide), if_neg (by decide)]
  rw [l_sub, if_neg (fun h => absurd h.1 (by decide))]
  by_cases ho : lessOver s t = true
  · rw [if_pos ⟨rfl, ho⟩, if_pos ho]
  · rw [if_neg (fun h => ho h.2), if_neg ho]
    unfold alu_both.f
    rw [l_sub, if_neg (by decide), if_pos rfl]
    unfold alu_less.f
    rw [if_neg ho]
    rfl
set_option maxHeartbeats 2000000 in
theorem aval_addu (x1 x2 d a i s t v : Int) (s0 : 0 ≤ s) (s1 : s ≤ 4294967295) (t0 : 0 ≤ t) (t1 : t ≤ 4294967295) (i0 : 0 ≤ i) (i1 : i ≤ 4294967295) (d0 : 0 ≤ d) (d1 : d < 32) (a0 : 0 ≤ a) (a1 : a < 32) (he : dec_Encode.f ⟨#[97, 100, 100, 117]⟩ x1 x2 d a i = some (v, true)) :
    alu_Do.f ⟨#[97, 100, 100, 117]⟩ x1 x2 d a i s t = some ((s + t) % 4294967296, true) := by
  unfold alu_Do.f
  rw [he, Option.bind_some]
  dsimp only
  rw [if_pos rfl, if_pos (show (⟨#[97, 100, 100, 117]⟩ : ByteArray).toList ∈ aluNames from by rw [l_addu]; decide), aform_addu, Option.bind_some]
  rw [l_dst, if_neg (by decide), if_neg (by decide), if_neg (by decide), if_neg (by decide), if_neg (by decide), if_neg (by decide)]
  rw [l_addu, if_neg (fun h => absurd h.1 (by decide)), if_neg (fun h => absurd h.1 (by decide))]
  have hbo : alu_both.f ⟨#[97, 100, 100, 117]⟩ x1 x2 d a i s t = some ((s + t) % 4294967296) := by
    unfold alu_both.f
    rw [l_addu, if_neg (by decide), if_neg (by decide), if_pos rfl]
  rw [hbo]
  rfl
set_option maxHeartbeats 2000000 in
theorem aval_subu (x1 x2 d a i s t v : Int) (s0 : 0 ≤ s) (s1 : s ≤ 4294967295) (t0 : 0 ≤ t) (t1 : t ≤ 4294967295) (i0 : 0 ≤ i) (i1 : i ≤ 4294967295) (d0 : 0 ≤ d) (d1 : d < 32) (a0 : 0 ≤ a) (a1 : a < 32) (he : dec_Encode.f ⟨#[115, 117, 98, 117]⟩ x1 x2 d a i = some (v, true)) :
    alu_Do.f ⟨#[115, 117, 98, 117]⟩ x1 x2 d a i s t = some ((s - t) % 4294967296, true) := by
  unfold alu_Do.f
  rw [he, Option.bind_some]
  dsimp only
  rw [if_pos rfl, if_pos (show (⟨#[115, 117, 98, 117]⟩ : ByteArray).toList ∈ aluNames from by rw [l_subu]; decide), aform_subu, Option.bind_some]
  rw [l_dst, if_neg (by decide), if_neg (by decide), if_neg (by decide), if_neg (by decide), if_neg (by decide), if_neg (by decide)]
  rw [l_subu, if_neg (fun h => absurd h.1 (by decide)), if_neg (fun h => absurd h.1 (by decide))]
  have hbo : alu_both.f ⟨#[115, 117, 98, 117]⟩ x1 x2 d a i s t = some ((s - t) % 4294967296) := by
    unfold alu_both.f
    rw [l_subu, if_neg (by decide), if_neg (by decide), if_neg (by decide), if_pos rfl]
  rw [hbo]
  rfl
set_option maxHeartbeats 2000000 in
theorem aval_or (x1 x2 d a i s t v : Int) (s0 : 0 ≤ s) (s1 : s ≤ 4294967295) (t0 : 0 ≤ t) (t1 : t ≤ 4294967295) (i0 : 0 ≤ i) (i1 : i ≤ 4294967295) (d0 : 0 ≤ d) (d1 : d < 32) (a0 : 0 ≤ a) (a1 : a < 32) (he : dec_Encode.f ⟨#[111, 114]⟩ x1 x2 d a i = some (v, true)) :
    alu_Do.f ⟨#[111, 114]⟩ x1 x2 d a i s t = some (Go.bits .or .u32 s t, true) := by
  unfold alu_Do.f
  rw [he, Option.bind_some]
  dsimp only
  rw [if_pos rfl, if_pos (show (⟨#[111, 114]⟩ : ByteArray).toList ∈ aluNames from by rw [l_or]; decide), aform_or, Option.bind_some]
  rw [l_dst, if_neg (by decide), if_neg (by decide), if_neg (by decide), if_neg (by decide), if_neg (by decide), if_neg (by decide)]
  rw [l_or, if_neg (fun h => absurd h.1 (by decide)), if_neg (fun h => absurd h.1 (by decide))]
  have hbo : alu_both.f ⟨#[111, 114]⟩ x1 x2 d a i s t = some (Go.bits .or .u32 s t) := by
    unfold alu_both.f
    rw [l_or, if_neg (by decide), if_neg (by decide), if_neg (by decide), if_neg (by decide), if_neg (by decide), if_pos rfl]
  rw [hbo]
  rfl
set_option maxHeartbeats 2000000 in
theorem aval_nor (x1 x2 d a i s t v : Int) (s0 : 0 ≤ s) (s1 : s ≤ 4294967295) (t0 : 0 ≤ t) (t1 : t ≤ 4294967295) (i0 : 0 ≤ i) (i1 : i ≤ 4294967295) (d0 : 0 ≤ d) (d1 : d < 32) (a0 : 0 ≤ a) (a1 : a < 32) (he : dec_Encode.f ⟨#[110, 111, 114]⟩ x1 x2 d a i = some (v, true)) :
    alu_Do.f ⟨#[110, 111, 114]⟩ x1 x2 d a i s t = some (4294967295 - Go.bits .or .u32 s t, true) := by
  unfold alu_Do.f
  rw [he, Option.bind_some]
  dsimp only
  rw [if_pos rfl, if_pos (show (⟨#[110, 111, 114]⟩ : ByteArray).toList ∈ aluNames from by rw [l_nor]; decide), aform_nor, Option.bind_some]
  rw [l_dst, if_neg (by decide), if_neg (by decide), if_neg (by decide), if_neg (by decide), if_neg (by decide), if_neg (by decide)]
  rw [l_nor, if_neg (fun h => absurd h.1 (by decide)), if_neg (fun h => absurd h.1 (by decide))]
  have hbo : alu_both.f ⟨#[110, 111, 114]⟩ x1 x2 d a i s t = some (4294967295 - Go.bits .or .u32 s t) := by
    unfold alu_both.f
    rw [l_nor, if_neg (by decide), if_neg (by decide), if_neg (by decide), if_neg (by decide), if_neg (by decide), if_neg (by decide), if_neg (by decide), if_pos rfl]
    have hb := bits_range .or (.inr (.inl rfl)) s0 s1 t0 t1
    rw [bits_not hb.1 hb.2]
  rw [hbo]
  rfl
end Go.Proofs.YtnddjndgfaefaaaDoor.F
end
