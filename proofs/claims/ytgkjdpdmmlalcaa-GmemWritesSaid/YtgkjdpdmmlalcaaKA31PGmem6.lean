import Derived.Test.YtgkjdpdmmlalcaaKZF0
import Derived.Test.YtgkjdpdmmlalcaaKA3
import Derived.Test.YtgkjdpdmmlalcaaKA5
import Derived.Test.YtgkjdpdmmlalcaaKA8HHost6
import Derived.Test.YtgkjdpdmmlalcaaKA16
import Derived.Test.YtgkjdpdmmlalcaaKA18
import Derived.Test.YtgkjdpdmmlalcaaKA21HSwap
import Derived.Test.YtgkjdpdmmlalcaaKA22
import Derived.Test.YtgkjdpdmmlalcaaKA24FGmemPut11
import Derived.Test.YtgkjdpdmmlalcaaKA25FGmemStore
import Derived.Test.YtgkjdpdmmlalcaaKA29
import Derived.Test.YtgkjdpdmmlalcaaKA30FFerryref05Store
section
namespace Go.Proofs.Ytgkjdpdmmlalcaa.F
open Go.RowKit Go.Shelf Go.Proofs.YtgkjdpdmmlalcaaW.PrintWords Go.Proofs.YtgkjdpdmmlalcaaW.PrintLast Go.Proofs.YtgkjdpdmmlalcaaW.PrintMore
set_option linter.unusedVariables false
set_option linter.unusedSimpArgs false
def beL (v n : Int) : ByteArray := ⟨(leBytes v n.toNat).reverse.toArray⟩
def storeG (m : List SC) (b : Int) (p : List SP) (a n v : Int) : List SC × Int × Int := if sizedB n = true then putG m b p a (beL v n) 2 else (m, 0, 0)
theorem beL_size {v n : Int} (h : sizedB n = true) : (beL v n).size ≤ 8 ∧ (beL v n).size = n.toNat := by
  have h1 := sizedB_range h
  have e : (beL v n).size = n.toNat := by
    show (leBytes v n.toNat).reverse.length = _
    rw [List.length_reverse, leBytes_length]
  exact ⟨by omega, e⟩
section
variable {l : List SM} {m : List SC} {b : Int} {p : List SP}
theorem FitG.Put_f (h : FitG l m b p) {a : Int} {s : ByteArray} (a0 : 0 ≤ a) (a1 : a < 4294967296) (hs : s.size ≤ 700000) (k : Nat) (hk : s.size < k) : gmem_Put.f k l m b p a s = some (l, (F.putG m b p a s 2).1, b, p, (F.putG m b p a s 2).2.1, (F.putG m b p a s 2).2.2) := by
  unfold gmem_Put.f
  rw [h.put_f a0 a1 hs k hk]
  rfl
theorem FitG.Poke_f (h : FitG l m b p) {a : Int} {s : ByteArray} (a0 : 0 ≤ a) (a1 : a < 4294967296) (hs : s.size ≤ 700000) (k : Nat) (hk : s.size < k) : gmem_Poke.f k l m b p a s = some (l, (F.putG m b p a s 0).1, b, p, (F.putG m b p a s 0).2.1, (F.putG m b p a s 0).2.2) := by
  unfold gmem_Poke.f
  rw [h.put_f a0 a1 hs k hk]
  rfl
theorem FitG.Store_f (h : FitG l m b p) {a n v : Int} (a0 : 0 ≤ a) (a1 : a < 4294967296) (n0 : -9223372036854775808 ≤ n) (n1 : n ≤ 9223372036854775807) (k : Nat) (hk : 8 < k) : gmem_Store.f k l m b p a n v = some (l, (storeG m b p a n v).1, b, p, (storeG m b p a n v).2.1, (storeG m b p a n v).2.2) := by
  unfold gmem_Store.f storeG
  rw [sized_f n n0 n1, Option.bind_some]
  by_cases hs : sizedB n = true
  · have h1 := sizedB_range hs
    have h2 := beL_size (v := v) hs
    have e : swap_PutBe.f v n = some (beL v n) := by
      have h3 := rPutBe_eq v n.toNat (by omega)
      rwa [show ((n.toNat : Nat) : Int) = n by omega] at h3
    rw [if_pos hs, if_pos hs, e, Option.bind_some, h.Put_f a0 a1 (by omega) k (by omega)]
    rfl
  rw [if_neg hs, if_neg hs]
theorem FitG.rPut_f (h : FitG l m b p) {a : Int} {s : ByteArray} (a0 : 0 ≤ a) (a1 : a < 4294967296) (hs : s.size ≤ 700000) (k : Nat) (hk : 4000000 < k) : ferryref05_Put.f k l m b p a s = some (l, (F.putG m b p a s 2).1, b, p, (F.putG m b p a s 2).2.1, (F.putG m b p a s 2).2.2) := by
  unfold ferryref05_Put.f
  rw [h.rput_f a0 a1 hs (.inr (.inr (.inl rfl))) k hk]
  rfl
theorem FitG.rPoke_f (h : FitG l m b p) {a : Int} {s : ByteArray} (a0 : 0 ≤ a) (a1 : a < 4294967296) (hs : s.size ≤ 700000) (k : Nat) (hk : 4000000 < k) : ferryref05_Poke.f k l m b p a s = some (l, (F.putG m b p a s 0).1, b, p, (F.putG m b p a s 0).2.1, (F.putG m b p a s 0).2.2) := by
  unfold ferryref05_Poke.f
  rw [h.rput_f a0 a1 hs (.inl rfl) k hk]
  rfl
theorem FitG.rStore_f (h : FitG l m b p) {a n v : Int} (a0 : 0 ≤ a) (a1 : a < 4294967296) (v0 : 0 ≤ v) (v1 : v ≤ 18446744073709551615) (k : Nat) (hk : 4000000 < k) : ferryref05_Store.f k l m b p a n v = some (l, (storeG m b p a n v).1, b, p, (storeG m b p a n v).2.1, (storeG m b p a n v).2.2) := by
  unfold ferryref05_Store.f storeG
  rw [rsized_f n, Option.bind_some]
  by_cases hs : sizedB n = true
  · have h1 := sizedB_range hs
    have h2 := beL_size (v := v) hs
    have e : swap_PutBe.f v n = some (beL v n) := by
      have h3 := rPutBe_eq v n.toNat (by omega)
      rwa [show ((n.toNat : Nat) : Int) = n by omega] at h3
    rw [if_pos hs, if_pos hs, ref_PutBe_spec v n k (by omega) v0 v1, e, Option.bind_some, h.rPut_f a0 a1 (by omega) k hk]
    rfl
  rw [if_neg hs, if_neg hs]
theorem FitG.storeG (h : FitG l m b p) {a n v : Int} (a0 : 0 ≤ a) (a1 : a < 4294967296) (hm : m.length + 8 ≤ 131072) : FitG l (F.storeG m b p a n v).1 b p := by
  unfold F.storeG
  split
  · rename_i hs
    exact h.putG a0 a1 (by have := (beL_size (v := v) hs).1; omega)
  · exact h
end
end Go.Proofs.Ytgkjdpdmmlalcaa.F
end
