/- More about bits of whole numbers: what is left without some; numbers that are joined from parts. Condition: numbers of their kinds. -/
import Derived.Test.YtijghmpapmfndaaDoorBits
namespace Go.Proofs.YtijghmpapmfndaaDoor.F
open Go.RowKit Go.Proofs.YtijghmpapmfndaaDoorW.PrintWords Go.Proofs.YtijghmpapmfndaaDoorW.PrintLast Go.Proofs.YtijghmpapmfndaaDoorW.PrintMore
set_option linter.unusedVariables false
theorem bv_andNot {w : Nat} (x y : BitVec w) : (x &&& ~~~y).toNat + (x &&& y).toNat = x.toNat := by
  have h : (x &&& ~~~y) &&& (x &&& y) = 0#w := by
    ext i hi
    simp
    cases x[i] <;> cases y[i] <;> simp
  rw [← BitVec.toNat_add_of_and_eq_zero h, BitVec.add_eq_or_of_and_eq_zero _ _ h]
  congr 1
  ext i hi
  simp
  cases x[i] <;> cases y[i] <;> simp
theorem andNot32 (a b : Nat) (ha : a < 2 ^ 32) (hb : b < 2 ^ 32) : Go.bits .andNot .u32 a b = (a : Int) - ((a &&& b : Nat) : Int) := by
  have h := bv_andNot (BitVec.ofNat 32 a) (BitVec.ofNat 32 b)
  have e : (BitVec.ofNat 32 a &&& BitVec.ofNat 32 b).toNat = a &&& b := by
    rw [BitVec.toNat_and, BitVec.toNat_ofNat, BitVec.toNat_ofNat, Nat.mod_eq_of_lt ha, Nat.mod_eq_of_lt hb]
  rw [e, BitVec.toNat_ofNat, Nat.mod_eq_of_lt ha] at h
  show IntKind.u32.wrap (((BitVec.ofInt 32 (a : Int) &&& ~~~BitVec.ofInt 32 (b : Int)).toNat : Nat) : Int) = _
  rw [BitVec.ofInt_natCast, BitVec.ofInt_natCast, u32_keep _ (by omega) (by omega)]
  omega
theorem andNot64 (a b : Nat) (ha : a < 2 ^ 64) (hb : b < 2 ^ 64) : Go.bits .andNot .u64 a b = (a : Int) - ((a &&& b : Nat) : Int) := by
  have h := bv_andNot (BitVec.ofNat 64 a) (BitVec.ofNat 64 b)
  have e : (BitVec.ofNat 64 a &&& BitVec.ofNat 64 b).toNat = a &&& b := by
    rw [BitVec.toNat_and, BitVec.toNat_ofNat, BitVec.toNat_ofNat, Nat.mod_eq_of_lt ha, Nat.mod_eq_of_lt hb]
  rw [e, BitVec.toNat_ofNat, Nat.mod_eq_of_lt ha] at h
  show IntKind.u64.wrap (((BitVec.ofInt 64 (a : Int) &&& ~~~BitVec.ofInt 64 (b : Int)).toNat : Nat) : Int) = _
  rw [BitVec.ofInt_natCast, BitVec.ofInt_natCast, u64_keep _ (by omega) (by omega)]
  omega
theorem nat_mask_at (x i j : Nat) : x &&& ((2 ^ i - 1) * 2 ^ j) = x / 2 ^ j % 2 ^ i * 2 ^ j := by
  rw [← Nat.shiftLeft_eq, ← Nat.and_two_pow_sub_one_eq_mod, ← Nat.shiftRight_eq_div_pow, ← Nat.shiftLeft_eq]
  apply Nat.eq_of_testBit_eq
  intro k
  simp only [Nat.testBit_and, Nat.testBit_shiftLeft, Nat.testBit_shiftRight, Nat.testBit_two_pow_sub_one]
  by_cases h : j ≤ k
  · simp [h]
  · simp [h]
/-- without some bits from j on -/
theorem without64 {x : Int} (i j : Nat) (hij : i + j ≤ 64) (h0 : 0 ≤ x) (h1 : x ≤ 18446744073709551615) : Go.bits .andNot .u64 x ((2 ^ i - 1) * 2 ^ j) = x - x / 2 ^ j % 2 ^ i * 2 ^ j := by
  obtain ⟨n, rfl⟩ := Int.eq_ofNat_of_zero_le h0
  have hp : 0 < 2 ^ i := Nat.two_pow_pos i
  have e : (((2 : Int) ^ i - 1) * 2 ^ j) = (((2 ^ i - 1) * 2 ^ j : Nat) : Int) := by
    rw [Int.natCast_mul, Int.natCast_sub hp]
    simp
  have hb : (2 ^ i - 1) * 2 ^ j < 2 ^ 64 := by
    have h2 : (2 ^ i - 1) * 2 ^ j < 2 ^ i * 2 ^ j := Nat.mul_lt_mul_of_pos_right (by omega) (Nat.two_pow_pos j)
    rw [← Nat.pow_add] at h2
    exact Nat.lt_of_lt_of_le h2 (Nat.pow_le_pow_right (by decide) hij)
  rw [e, andNot64 n _ (by omega) hb, nat_mask_at]
  simp
theorem without32 {x : Int} (i j : Nat) (hij : i + j ≤ 32) (h0 : 0 ≤ x) (h1 : x ≤ 4294967295) : Go.bits .andNot .u32 x ((2 ^ i - 1) * 2 ^ j) = x - x / 2 ^ j % 2 ^ i * 2 ^ j := by
  obtain ⟨n, rfl⟩ := Int.eq_ofNat_of_zero_le h0
  have hp : 0 < 2 ^ i := Nat.two_pow_pos i
  have e : (((2 : Int) ^ i - 1) * 2 ^ j) = (((2 ^ i - 1) * 2 ^ j : Nat) : Int) := by
    rw [Int.natCast_mul, Int.natCast_sub hp]
    simp
  have hb : (2 ^ i - 1) * 2 ^ j < 2 ^ 32 := by
    have h2 : (2 ^ i - 1) * 2 ^ j < 2 ^ i * 2 ^ j := Nat.mul_lt_mul_of_pos_right (by omega) (Nat.two_pow_pos j)
    rw [← Nat.pow_add] at h2
    exact Nat.lt_of_lt_of_le h2 (Nat.pow_le_pow_right (by decide) hij)
  rw [e, andNot32 n _ (by omega) hb, nat_mask_at]
  simp
theorem bits_or_assoc64 {x y z : Int} (h0 : 0 ≤ x) (h1 : x ≤ 18446744073709551615) (h2 : 0 ≤ y) (h3 : y ≤ 18446744073709551615) (h4 : 0 ≤ z) (h5 : z ≤ 18446744073709551615) :
    Go.bits .or .u64 (Go.bits .or .u64 x y) z = Go.bits .or .u64 x (Go.bits .or .u64 y z) := by
  obtain ⟨a, rfl⟩ := Int.eq_ofNat_of_zero_le h0
  obtain ⟨b, rfl⟩ := Int.eq_ofNat_of_zero_le h2
  obtain ⟨c, rfl⟩ := Int.eq_ofNat_of_zero_le h4
  have ha : a < 2 ^ 64 := by omega
  have hb : b < 2 ^ 64 := by omega
  have hc : c < 2 ^ 64 := by omega
  rw [(bits_nat64 a b ha hb).2.1, (bits_nat64 b c hb hc).2.1, (bits_nat64 _ c (Nat.or_lt_two_pow ha hb) hc).2.1, (bits_nat64 a _ ha (Nat.or_lt_two_pow hb hc)).2.1, Nat.or_assoc]
end Go.Proofs.YtijghmpapmfndaaDoor.F
