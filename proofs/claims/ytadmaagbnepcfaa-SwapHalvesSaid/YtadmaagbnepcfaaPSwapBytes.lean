/- Numbers and their bytes, in both orders, in plain numbers. No condition but the lengths. -/
import Derived.Test.YtadmaagbnepcfaaPSwap
import Derived.Test.YtadmaagbnepcfaaHSwap
import Derived.Test.YtadmaagbnepcfaaFSwapBe
import Derived.Test.YtadmaagbnepcfaaFSwapLe
namespace Go.Proofs.Ytadmaagbnepcfaa.F
open Go.RowKit Go.Proofs.YtadmaagbnepcfaaW.PrintWords Go.Proofs.YtadmaagbnepcfaaW.PrintLast Go.Proofs.YtadmaagbnepcfaaW.PrintMore
set_option linter.unusedVariables false
theorem bys_mk (l : List UInt8) (b : Bool) : bys ⟨l.toArray⟩ b = if b then l.reverse else l := by
  cases b <;> rfl
theorem putLe_eq (v : Int) (n : Nat) (hn : n ≤ 8) : swap_PutLe.f v (n : Int) = some ⟨(leBytes v n).toArray⟩ := by
  unfold swap_PutLe.f
  rw [if_neg (by omega), if_neg (by omega), Int.toNat_natCast]
theorem putBe_eq (v : Int) (n : Nat) (hn : n ≤ 8) : swap_PutBe.f v (n : Int) = some ⟨(leBytes v n).reverse.toArray⟩ := by
  unfold swap_PutBe.f
  rw [putLe_eq v n hn]
  simp only [Option.bind_some, bys_mk, if_true]
theorem beOf_cons_aux : ∀ (l : List UInt8) (acc : Int), l.foldl (fun n b => n * 256 + (b.toNat : Int)) acc = acc * 256 ^ l.length + beOf l
  | [], acc => by simp [beOf]
  | x :: l, acc => by
    have h1 := beOf_cons_aux l (acc * 256 + (x.toNat : Int))
    have h2 := beOf_cons_aux l ((0 : Int) * 256 + (x.toNat : Int))
    have e : beOf (x :: l) = l.foldl (fun n b => n * 256 + (b.toNat : Int)) ((0 : Int) * 256 + (x.toNat : Int)) := rfl
    rw [e, h2, List.foldl_cons, h1, List.length_cons, Int.pow_succ, Int.zero_mul, Int.zero_add, Int.add_mul, Int.mul_assoc, Int.mul_comm 256, Int.add_assoc]
theorem beOf_cons (x : UInt8) (l : List UInt8) : beOf (x :: l) = (x.toNat : Int) * 256 ^ l.length + beOf l := by
  have h := beOf_cons_aux l ((0 : Int) * 256 + (x.toNat : Int))
  rw [show ((0 : Int) * 256 + (x.toNat : Int)) * 256 ^ l.length = (x.toNat : Int) * 256 ^ l.length by rw [Int.zero_mul, Int.zero_add]] at h
  exact h
theorem beOf_append (a b : List UInt8) : beOf (a ++ b) = beOf a * 256 ^ b.length + beOf b := by
  unfold beOf
  rw [List.foldl_append, beOf_cons_aux]
  rfl
theorem emod_mul256 (v p : Int) (hp : 0 < p) : v % (p * 256) = v / p % 256 * p + v % p := by
  have e1 := Int.mul_ediv_add_emod v p
  have e2 := Int.mul_ediv_add_emod (v / p) 256
  have h1 := Int.emod_nonneg v (show p ≠ 0 by omega)
  have h2 := Int.emod_lt_of_pos v hp
  have h3 := Int.emod_nonneg (v / p) (show (256 : Int) ≠ 0 by omega)
  have h4 := Int.emod_lt_of_pos (v / p) (show (0 : Int) < 256 by omega)
  have h5 : v / p % 256 * p ≤ 255 * p := Int.mul_le_mul_of_nonneg_right (by omega) (by omega)
  have h6 : 0 ≤ v / p % 256 * p := Int.mul_nonneg h3 (by omega)
  have e3 : p * (v / p) = p * 256 * (v / p / 256) + v / p % 256 * p := by
    rw [Int.mul_assoc, Int.mul_comm (v / p % 256), ← Int.mul_add, e2]
  exact (div_mod_of (q := v / p / 256) (by omega) (by omega) (by omega)).2
theorem beOf_le (v : Int) : ∀ n : Nat, beOf (leBytes v n).reverse = v % 256 ^ n
  | 0 => by simp [leBytes, beOf]
  | n + 1 => by
    have hp : (0 : Int) < 256 ^ n := Int.pow_pos (by decide)
    rw [leBytes_succ, List.reverse_append, List.reverse_singleton, List.singleton_append, beOf_cons, byte_toNat, List.length_reverse, leBytes_length, beOf_le v n, Int.pow_succ, emod_mul256 v _ hp]
theorem be_back (v : Int) (n : Nat) (hn : n ≤ 8) (h0 : 0 ≤ v) : swap_Be.f ⟨(leBytes v n).reverse.toArray⟩ = some (v % 256 ^ n) := by
  unfold swap_Be.f swap_number.f
  rw [if_neg (by show ¬ (((leBytes v n).reverse.toArray.size : Nat) : Int) > 8; rw [List.size_toArray, List.length_reverse, leBytes_length]; omega), bys_mk, if_neg (by simp), beOf_le]
  rfl
theorem le_back (v : Int) (n : Nat) (hn : n ≤ 8) (h0 : 0 ≤ v) : swap_Le.f ⟨(leBytes v n).toArray⟩ = some (v % 256 ^ n) := by
  unfold swap_Le.f swap_number.f
  rw [if_neg (by show ¬ (((leBytes v n).toArray.size : Nat) : Int) > 8; rw [List.size_toArray, leBytes_length]; omega), bys_mk, if_pos rfl, beOf_le]
  rfl
end Go.Proofs.Ytadmaagbnepcfaa.F
