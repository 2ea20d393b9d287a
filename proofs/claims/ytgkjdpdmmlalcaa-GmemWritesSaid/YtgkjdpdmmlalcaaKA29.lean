import Derived.Test.YtgkjdpdmmlalcaaKZF0
import Derived.Test.YtgkjdpdmmlalcaaKA0
import Derived.Test.YtgkjdpdmmlalcaaKA2HHost0
import Derived.Test.YtgkjdpdmmlalcaaKA3
import Derived.Test.YtgkjdpdmmlalcaaKA5
import Derived.Test.YtgkjdpdmmlalcaaKA8HHost6
import Derived.Test.YtgkjdpdmmlalcaaKA10PHost6
import Derived.Test.YtgkjdpdmmlalcaaKA12PHost7
import Derived.Test.YtgkjdpdmmlalcaaKA14
import Derived.Test.YtgkjdpdmmlalcaaKA16
import Derived.Test.YtgkjdpdmmlalcaaKA18
import Derived.Test.YtgkjdpdmmlalcaaKA20
import Derived.Test.YtgkjdpdmmlalcaaKA21HSwap
import Derived.Test.YtgkjdpdmmlalcaaKA22
import Derived.Test.YtgkjdpdmmlalcaaKA23FGmemPut
import Derived.Test.YtgkjdpdmmlalcaaKA28FFerryref05Put
section
namespace Go.Proofs.Ytgkjdpdmmlalcaa.F
open Go.RowKit Go.Shelf Go.Proofs.YtgkjdpdmmlalcaaW.PrintWords Go.Proofs.YtgkjdpdmmlalcaaW.PrintLast Go.Proofs.YtgkjdpdmmlalcaaW.PrintMore
set_option linter.unusedVariables false
set_option linter.unusedSimpArgs false
def pkL : List SC → Nat → List UInt8 → List SC
  | m, _, [] => m
  | m, a, x :: s => pkL (pokeN m a x.toNat) (a + 1) s
theorem pkL_app : ∀ (s t : List UInt8) (m : List SC) (a : Nat), pkL m a (s ++ t) = pkL (pkL m a s) (a + s.length) t
  | [], t, m, a => rfl
  | x :: s, t, m, a => by
    show pkL (pokeN m a x.toNat) (a + 1) (s ++ t) = _
    rw [pkL_app s t]
    show pkL (pkL (pokeN m a x.toNat) (a + 1) s) (a + 1 + s.length) t = pkL (pkL (pokeN m a x.toNat) (a + 1) s) (a + (s.length + 1)) t
    congr 1
    omega
theorem pkL_pokes : ∀ (s : List UInt8) (m : List SC) (a v : Nat), (∀ j (h : j < s.length), byteAt v j = s[j].toNat) → pokes m a v s.length = pkL m a s
  | [], m, a, v, _ => rfl
  | x :: s, m, a, v, h => by
    show pokes (pokeN m a (v % 256)) (a + 1) (v / 256) s.length = pkL (pokeN m a x.toNat) (a + 1) s
    have h0 : v % 256 = x.toNat := by
      have h1 := h 0 (by simp)
      unfold byteAt at h1
      simpa using h1
    rw [h0]
    refine pkL_pokes s _ _ _ (fun j hj => ?_)
    rw [← byteAt_succ]
    exact h (j + 1) (by simpa using hj)
theorem pkL_v (s : List UInt8) : ∃ v : Nat, (∀ j (h : j < s.length), byteAt v j = s[j].toNat) ∧ ∀ m a, pkL m a s = pokes m a v s.length := by
  obtain ⟨v, _, _, h⟩ := le_val s
  exact ⟨v, h, fun m a => (pkL_pokes s m a v h).symm⟩
theorem pkL_length (m : List SC) (a : Nat) (s : List UInt8) : (pkL m a s).length ≤ m.length + s.length := by
  obtain ⟨v, _, h⟩ := pkL_v s
  rw [h]
  exact pokes_length m a v
theorem CellsH.pkL {m : List SC} (h : CellsH m) {a : Nat} {s : List UInt8} (ha : a + s.length ≤ 18446744073709551616) : CellsH (F.pkL m a s) := by
  obtain ⟨v, _, e⟩ := pkL_v s
  rw [e]
  exact h.pokes ha
theorem ext_take (x : ByteArray) (k : Nat) : (x.extract 0 k).data.toList = x.data.toList.take k := by
  rw [ByteArray.data_extract, Array.toList_extract]
  simp [List.extract]
theorem ext_drop (x : ByteArray) (k : Nat) : (x.extract k x.size).data.toList = x.data.toList.drop k := by
  rw [ByteArray.data_extract, Array.toList_extract]
  simp only [List.extract]
  apply List.take_of_length_le
  rw [List.length_drop]
  exact Nat.le_refl _
theorem put_off (A : Nat) : wrap64 (8 - wrap64 (Int.tmod (A : Int) 8)) = ((8 - A % 8 : Nat) : Int) := by
  rw [Int.tmod_eq_emod_of_nonneg (Int.natCast_nonneg A), show (A : Int) % 8 = ((A % 8 : Nat) : Int) from rfl]
  have h : A % 8 < 8 := Nat.mod_lt _ (by decide)
  generalize A % 8 = r at h
  have e : wrap64 ((r : Nat) : Int) = ((r : Nat) : Int) := by
    unfold wrap64
    omega
  rw [e]
  unfold wrap64
  omega
theorem put_wrap {A n : Nat} (h : A + n ≤ 9223372036854775808) : IntKind.u64.wrap ((A : Int) + (n : Int)) = ((A + n : Nat) : Int) := by
  rw [u64w]
  omega
theorem put_wrap2 {A n : Nat} (h : A + n ≤ 9223372036854775808) : IntKind.u64.wrap ((A : Int) + IntKind.u64.wrap (n : Int)) = ((A + n : Nat) : Int) := by
  rw [u64w, u64w]
  omega
theorem size_list (x : ByteArray) : x.size = x.data.toList.length := rfl
section
variable {l : List SM} {m : List SC} {b : Int} {p : List SP}
theorem step_store {A n : Nat} (hr : Rises mpK l) (hl : l.length ≤ 64) (hC : CellsH m) (hm : m.length ≤ 900000) (n1 : 1 ≤ n) (n8 : n ≤ 8) (hA : A + n ≤ 9223372036854775808) (hf : ∀ j : Nat, j < n → faultS l ((A : Int) + (j : Int)) 2 = 0) (s : List UInt8) (hs : s.length = n) :
    storeS l m (A : Int) (n : Int) (beOf s.reverse) = (l, pkL m A s, 0, 0) ∧ 0 ≤ beOf s.reverse ∧ beOf s.reverse < 18446744073709551616 := by
  obtain ⟨v, h1, h2, h3⟩ := le_val s
  have ha : askS l (A : Int) 2 n 0 = (0, 0) := askS_all (by omega) (Int.le_refl 0) (fun j j0 j1 => by
    have h4 := hf j.toNat (by omega)
    rw [show ((j.toNat : Nat) : Int) = j by omega] at h4
    exact ⟨by omega, h4⟩)
  have hv : v < 256 ^ 8 := Nat.lt_of_lt_of_le h2 (Nat.pow_le_pow_right (by decide) (by omega))
  rw [p256_8] at hv
  refine ⟨?_, by omega, by omega⟩
  unfold storeS
  rw [if_neg (by omega), Int.toNat_natCast, ha, if_pos rfl, h1, Int.toNat_natCast, Int.toNat_natCast, ← pkL_pokes s m A v h3, hs]
theorem put_l0 (hr : Rises mpK l) (hl : l.length ≤ 64) : ∀ (k : Nat) (x : ByteArray) (A : Nat) (m : List SC), CellsH m → m.length + x.size ≤ 900000 → A + x.size ≤ 9223372036854775808 → (∀ j : Nat, j < x.size → faultS l ((A : Int) + (j : Int)) 2 = 0) → x.size < k →
    gmem_put.l0 k x (A : Int) l m b p = some (l, pkL m A x.data.toList, b, p, 0, 0)
  | 0, x, A, m, _, _, _, _, hk => absurd hk (by omega)
  | k + 1, x, A, m, hC, hm, hA, hf, hk => by
    rw [gmem_put.l0]
    by_cases h0 : (x.size : Int) > 0
    · obtain ⟨n, hn⟩ : ∃ n, min x.size 8 = n := ⟨_, rfl⟩
      have hmn : mn (x.size : Int) 8 = (n : Int) := by
        unfold mn
        split <;> omega
      have ht : (x.extract 0 n).data.toList.length = n := by
        rw [ext_take, List.length_take, ← size_list]
        omega
      have hst := step_store (m := m) hr hl hC (by omega) (n := n) (A := A) (by omega) (by omega) (by omega) (fun j hj => hf j (by omega)) _ ht
      rw [if_pos h0, hmn, if_pos (by omega), if_pos (by omega), Int.toNat_natCast, swap_Le_eq _ (by rw [size_list, ht]; omega), Option.bind_some,
        host_Store_spec l hC hr (by omega) (by omega) (by omega) (by omega) hst.2.1 hst.2.2, hst.1, Option.bind_some]
      dsimp only
      have hw : IntKind.u64.wrap ((A : Int) + (n : Int)) = ((A + n : Nat) : Int) := put_wrap (by omega)
      have hd : (x.extract n x.size).size = x.size - n := by
        rw [size_list, ext_drop, List.length_drop, ← size_list]
      have hpl := pkL_length m A (x.extract 0 n).data.toList
      rw [ht] at hpl
      rw [hw, put_l0 hr hl k _ (A + n) _ (hC.pkL (by rw [ht]; omega)) (by rw [hd]; omega) (by rw [hd]; omega) (fun j hj => by
        rw [hd] at hj
        have h1 := hf (n + j) (by omega)
        rwa [show (A : Int) + ((n + j : Nat) : Int) = ((A + n : Nat) : Int) + (j : Int) by omega] at h1) (by rw [hd]; omega), ext_drop, ext_take]
      have e : pkL m A x.data.toList = pkL (pkL m A (x.data.toList.take n)) (A + n) (x.data.toList.drop n) := by
        conv => lhs; rw [← List.take_append_drop n x.data.toList]
        rw [pkL_app, List.length_take, ← size_list, show min n x.size = n by omega]
      rw [e]
    rw [if_neg h0]
    have e : x.data.toList = [] := List.eq_nil_of_length_eq_zero (by rw [← size_list]; omega)
    rw [e]
    rfl
theorem ref05_put_l0 (hr : Rises mpK l) (hl : l.length ≤ 64) : ∀ (k : Nat) (x : ByteArray) (A : Nat) (m : List SC), CellsH m → m.length + x.size ≤ 900000 → A + x.size ≤ 9223372036854775808 → (∀ j : Nat, j < x.size → faultS l ((A : Int) + (j : Int)) 2 = 0) → 3 * m.length + 5 * x.size + 400 < k →
    ferryref05_put.l0 k x (A : Int) l m b p 0 0 = some (l, pkL m A x.data.toList, b, p, 0, 0)
  | 0, x, A, m, _, _, _, _, hk => absurd hk (by omega)
  | k + 1, x, A, m, hC, hm, hA, hf, hk => by
    have htl : x.toList = x.data.toList := ByteArray.toList_eq x
    rw [ferryref05_put.l0]
    by_cases h0 : x.toList = []
    · rw [if_pos h0]
      rw [htl] at h0
      rw [h0]
      rfl
    have hx : 0 < x.size := by
      rw [htl] at h0
      rw [size_list]
      exact List.length_pos_iff.2 h0
    obtain ⟨n, hn⟩ : ∃ n, min (8 - A % 8) x.size = n := ⟨_, rfl⟩
    have h8 : wrap64 (8 - wrap64 (Int.tmod (A : Int) 8)) = ((8 - A % 8 : Nat) : Int) := put_off A
    have hmn : mn (((8 - A % 8 : Nat) : Int)) (x.size : Int) = (n : Int) := by
      unfold mn
      split <;> omega
    have ht : (x.extract 0 n).data.toList.length = n := by
      rw [ext_take, List.length_take, ← size_list]
      omega
    have hst := step_store (m := m) hr hl hC (by omega) (n := n) (A := A) (by omega) (by omega) (by omega) (fun j hj => hf j (by omega)) _ ht
    rw [if_neg h0, h8, hmn, if_pos (by omega), if_pos (by omega), Int.toNat_natCast, ref_Le_eq _ (by rw [size_list, ht]; omega) k (by omega), Option.bind_some,
      ref_Store l hC (by omega) (by omega) (by omega) (by omega) hst.2.1 hst.2.2 k (by omega), hst.1, Option.bind_some]
    dsimp only
    have hw : IntKind.u64.wrap ((A : Int) + IntKind.u64.wrap (n : Int)) = ((A + n : Nat) : Int) := put_wrap2 (by omega)
    have hd : (x.extract n x.size).size = x.size - n := by
      rw [size_list, ext_drop, List.length_drop, ← size_list]
    have hpl := pkL_length m A (x.extract 0 n).data.toList
    rw [ht] at hpl
    rw [hw, ref05_put_l0 hr hl k _ (A + n) _ (hC.pkL (by rw [ht]; omega)) (by rw [hd]; omega) (by rw [hd]; omega) (fun j hj => by
      rw [hd] at hj
      have h1 := hf (n + j) (by omega)
      rwa [show (A : Int) + ((n + j : Nat) : Int) = ((A + n : Nat) : Int) + (j : Int) by omega] at h1) (by rw [hd]; omega), ext_drop, ext_take]
    have e : pkL m A x.data.toList = pkL (pkL m A (x.data.toList.take n)) (A + n) (x.data.toList.drop n) := by
      conv => lhs; rw [← List.take_append_drop n x.data.toList]
      rw [pkL_app, List.length_take, ← size_list, show min n x.size = n by omega]
    rw [e]
def putG (m : List SC) (b : Int) (p : List SP) (a : Int) (s : ByteArray) (need : Int) : List SC × Int × Int := if (s.size : Int) > 65536 then (m, 1, 0) else if (firstS p a (s.size : Int) need).1 = 0 then (pkL m (b + a).toNat s.data.toList, 0, 0) else (m, (firstS p a (s.size : Int) need).1, (firstS p a (s.size : Int) need).2)
theorem putG_fault (h : FitG l m b p) {a : Int} {s : ByteArray} {need : Int} (a0 : 0 ≤ a) (hz : (firstS p a (s.size : Int) need).1 = 0) : ∀ j : Nat, j < s.size → Mapd p (a + (j : Int)) ∧ faultS l (((b + a).toNat : Int) + (j : Int)) 2 = 0 := fun j hj => by
  have hb0 := h.base.b0
  have h1 := mapd_all h a0 (firstS_zero hz).2 (a + (j : Int)) (spanL_mem.2 ⟨by omega, by omega⟩)
  have h2 := (h.host (by omega) h1).2.2
  rw [show (((b + a).toNat : Nat) : Int) + (j : Int) = b + (a + (j : Int)) by omega]
  exact ⟨h1, h2⟩
theorem FitG.put_f (h : FitG l m b p) {a need : Int} {s : ByteArray} (a0 : 0 ≤ a) (a1 : a < 4294967296) (hs : s.size ≤ 700000) (k : Nat) (hk : s.size < k) : gmem_put.f k l m b p a s need = some (l, (putG m b p a s need).1, b, p, (putG m b p a s need).2.1, (putG m b p a s need).2.2) := by
  have hb := h.base.b1
  have hb0 := h.base.b0
  have hmn := h.h.mn
  unfold gmem_put.f putG
  by_cases h1 : (s.size : Int) > 65536
  · rw [if_pos h1, if_pos h1]
  rw [if_neg h1, if_neg h1, firstS_f l m b h.pages h.lenP a0 a1 (by omega) (by omega), Option.bind_some]
  by_cases hz : (firstS p a (s.size : Int) need).1 = 0
  · have hp : guest_Place.f l m b p a = some (((b + a).toNat : Nat) : Int) := by
      unfold guest_Place.f
      rw [u64w, u64w]
      congr 1
      omega
    rw [if_pos hz, if_pos hz, hp, Option.bind_some, put_l0 h.h.lr h.h.ln k s _ m h.h.cells (by omega) (by omega) (fun j hj => (putG_fault h a0 hz j hj).2) hk]
  rw [if_neg hz, if_neg hz]
theorem FitG.rput_f (h : FitG l m b p) {a need : Int} {s : ByteArray} (a0 : 0 ≤ a) (a1 : a < 4294967296) (hs : s.size ≤ 700000) (hn : need = 0 ∨ need = 1 ∨ need = 2 ∨ need = 4) (k : Nat) (hk : 4000000 < k) : ferryref05_put.f k l m b p a s need = some (l, (putG m b p a s need).1, b, p, (putG m b p a s need).2.1, (putG m b p a s need).2.2) := by
  have hb := h.base.b1
  have hb0 := h.base.b0
  have hmn := h.h.mn
  have hpn := h.pages.pn
  unfold ferryref05_put.f putG
  by_cases h1 : (s.size : Int) > 65536
  · rw [if_pos h1, if_pos h1]
  rw [if_neg h1, if_neg h1, ref05_ask l m b h.pages h.lenP a0 a1 (by omega) (by omega) hn k (by omega), Option.bind_some]
  by_cases hz : (firstS p a (s.size : Int) need).1 = 0
  · have hp : ferryref04_Place.f l m b p a = some (((b + a).toNat : Nat) : Int) := by
      unfold ferryref04_Place.f
      rw [u64w, u64w]
      congr 1
      omega
    rw [if_pos hz, if_pos hz, hp, Option.bind_some, (firstS_zero hz).1]
    exact ref05_put_l0 h.h.lr h.h.ln k s _ m h.h.cells (by omega) (by omega) (fun j hj => (putG_fault h a0 hz j hj).2) (by omega)
  rw [if_neg hz, if_neg hz]
theorem FitG.pkL (h : FitG l m b p) {a : Int} {s : List UInt8} (a0 : 0 ≤ a) (hm : m.length + s.length ≤ 131072) (hx : ∀ j : Nat, j < s.length → Mapd p (a + (j : Int))) (ha : a + s.length ≤ 4294967296) : FitG l (F.pkL m (b + a).toNat s) b p := by
  have hb := h.base.b1
  have hb0 := h.base.b0
  have hb2 := h.base.b2
  obtain ⟨v, _, e⟩ := pkL_v s
  rw [e]
  refine ⟨h.h.pokes hm (by omega) (fun j hj => ?_), h.base, h.pages, h.pm, h.lm, fun c hc c0 c1 => ?_⟩
  · have h1 := (h.host (by omega) (hx j hj)).1
    rwa [show (((b + a).toNat + j : Nat) : Int) = b + (a + (j : Int)) by omega]
  · rcases mem_pokes h.h.cells (by omega) hc with h1 | ⟨j, hj, h1⟩
    · exact h.cm c h1 c0 c1
    · obtain ⟨_, y, hy, e2⟩ := hx j hj
      exact ⟨y, hy, by omega⟩
theorem FitG.putG (h : FitG l m b p) {a need : Int} {s : ByteArray} (a0 : 0 ≤ a) (a1 : a < 4294967296) (hm : m.length + s.size ≤ 131072) : FitG l (F.putG m b p a s need).1 b p := by
  unfold F.putG
  split
  · exact h
  · split
    · rename_i hz
      have h1 := putG_fault h a0 hz
      by_cases h0 : s.size = 0
      · have e : s.data.toList = [] := List.eq_nil_of_length_eq_zero h0
        rw [e]
        exact h
      have h2 := (h1 (s.size - 1) (by omega)).1.1
      exact h.pkL a0 hm (fun j hj => (h1 j hj).1) (by rw [← size_list]; omega)
    · exact h
end
end Go.Proofs.Ytgkjdpdmmlalcaa.F
end
section
namespace Go.Proofs.Ytgkjdpdmmlalcaa.F
open Go.RowKit Go.Proofs.YtgkjdpdmmlalcaaW.PrintWords Go.Proofs.YtgkjdpdmmlalcaaW.PrintLast Go.Proofs.YtgkjdpdmmlalcaaW.PrintMore
attribute [local go_sem] max2_int min2_int max_two min_two max_three min_three max_four min_four
attribute [local go_sem] cell_twice
set_option linter.unusedVariables false
set_option linter.unusedSimpArgs false

def gmem_Poke.f (k : Nat) (l0_0 : List (S83)) (l0_1 : List (S88)) (a0_2 : Int) (l0_3 : List (S41)) (a1 : Int) (a2 : ByteArray) : Option ((List (S83)) × (List (S88)) × Int × (List (S41)) × Int × Int) := (gmem_put.f k l0_0 l0_1 a0_2 l0_3 a1 a2 0).bind fun bt493 => (some (bt493.1, bt493.2.1, bt493.2.2.1, bt493.2.2.2.1, bt493.2.2.2.2.1, bt493.2.2.2.2.2))
set_option maxHeartbeats 8000000 in
set_option maxRecDepth 100000 in
theorem gmem_Poke.calls (k : Nat) (P0_0_ : Nat → Prop) (A0_0 : Option Addr) (c0_0 : Nat) (l0_0 : List (S83)) (P0_1_ : Nat → Prop) (A0_1 : Option Addr) (c0_1 : Nat) (l0_1 : List (S88)) (a0_2 : Int) (P0_3_ : Nat → Prop) (A0_3 : Option Addr) (c0_3 : Nat) (l0_3 : List (S41)) (a1 : Int) (a2 : ByteArray) (r1 : List (S83)) (r2 : List (S88)) (r3 : Int) (r4 : List (S41)) (r5 : Int) (r6 : Int) (w : World) (hs0_0 : Kd.V k83 83 w w.heap.size (fun k_ => P0_0_ k_) (.slice A0_0 l0_0.length c0_0) l0_0) (hs0_1 : Kd.V k88 88 w w.heap.size (fun k_ => P0_1_ k_) (.slice A0_1 l0_1.length c0_1) l0_1) (hs0_3 : Kd.V k41 41 w w.heap.size (fun k_ => P0_3_ k_) (.slice A0_3 l0_3.length c0_3) l0_3) (h : gmem_Poke.f k l0_0 l0_1 a0_2 l0_3 a1 a2 = some (r1, r2, r3, r4, r5, r6)) :
    Calls Try.prog 19 #[.agg #[.slice A0_0 l0_0.length c0_0, .slice A0_1 l0_1.length c0_1, .int .u64 a0_2, .slice A0_3 l0_3.length c0_3], .int .u32 a1, .string a2] w fun e w' => ∃ v0_ v1_ v3_ : Value, e = .returned (.tuple #[.agg #[v0_, v1_, .int .u64 r3, v3_], .agg #[.int .i64 r5, .int .u64 r6]]) ∧ Kd.V k83 83 w' w.heap.size (fun k_ => ((P0_0_ k_ ∨ P0_1_ k_ ∨ P0_3_ k_) ∨ w.heap.size ≤ k_)) v0_ r1 ∧ Kd.V k88 88 w' w.heap.size (fun k_ => ((P0_0_ k_ ∨ P0_1_ k_ ∨ P0_3_ k_) ∨ w.heap.size ≤ k_)) v1_ r2 ∧ Kd.V k41 41 w' w.heap.size (fun k_ => ((P0_0_ k_ ∨ P0_1_ k_ ∨ P0_3_ k_) ∨ w.heap.size ≤ k_)) v3_ r4 ∧ Below w.heap.size w w' := by
  have hu29 := Try.underlying29
  have hu34 := Try.underlying34
  have HO0_0 := Aside0.mk (show Kd.V k83 83 w w.heap.size (fun k_ => ((P0_0_ k_ ∨ P0_1_ k_ ∨ P0_3_ k_) ∨ w.heap.size ≤ k_)) (.slice A0_0 l0_0.length c0_0) l0_0 from Kd.V_mono hs0_0 (fun k_ hk => .inl (.inl hk)))
  have HO0_1 := Aside0.mk (show Kd.V k88 88 w w.heap.size (fun k_ => ((P0_0_ k_ ∨ P0_1_ k_ ∨ P0_3_ k_) ∨ w.heap.size ≤ k_)) (.slice A0_1 l0_1.length c0_1) l0_1 from Kd.V_mono hs0_1 (fun k_ hk => .inl (.inr (.inl hk))))
  have HO0_3 := Aside0.mk (show Kd.V k41 41 w w.heap.size (fun k_ => ((P0_0_ k_ ∨ P0_1_ k_ ∨ P0_3_ k_) ∨ w.heap.size ≤ k_)) (.slice A0_3 l0_3.length c0_3) l0_3 from Kd.V_mono hs0_3 (fun k_ hk => .inl (.inr (.inr hk))))
  have HB := Aside0.mk (Below.refl w.heap.size w)
  have H : ((gmem_put.f k l0_0 l0_1 a0_2 l0_3 a1 a2 0).bind fun bt493 => (some (bt493.1, bt493.2.1, bt493.2.2.1, bt493.2.2.2.1, bt493.2.2.2.2.1, bt493.2.2.2.2.2))) = some (r1, r2, r3, r4, r5, r6) := h
  clear h
  replace H := Option.bind_eq_some_iff.mp H
  obtain ⟨⟨t493, t496, t499, t500, t503, t504⟩, A40, H⟩ := H
  have A4 := Aside0.mk A40
  clear A40
  simp only [Option.some.injEq, Prod.mk.injEq] at H
  obtain ⟨rfl, rfl, rfl, rfl, rfl, rfl⟩ := H
  go_enter Try.func19, Try.ntmps19
  go_wp2_with (first | ((with_reducible refine gate_dst (N := 3) rfl ?_); refine bE_ 3 #[.slice A0_0 l0_0.length c0_0, .slice A0_1 l0_1.length c0_1, .int .u64 a0_2, .slice A0_3 l0_3.length c0_3] 29 ?_; intro gb490 hg w5 hbox hb; have BK490 := Aside0.mk hbox; have GW490 := geT_ w.heap.size hg; have GE490 := geT_ w.heap.size hg; replace HO0_0 := vE_ HO0_0.out hg hb; replace HO0_1 := vE_ HO0_1.out hg hb; replace HO0_3 := vE_ HO0_3.out hg hb; replace HB := hB_ hb; clear hb hbox hg) | ((with_reducible refine gate_dst (N := 6) rfl ?_); refine bE_ 6 #[.slice none 0 0, .slice none 0 0, .int .u64 0, .slice none 0 0] 29 ?_; intro gb491 hg w6 hbox hb; have BK491 := Aside0.mk hbox; have GW491 := geT_ w.heap.size hg; have GE491 := geT_ w.heap.size hg; have NB490_491 := nlT_ BK490.out hg; have NB491_490 := ngT_ BK490.out hg; replace HO0_0 := vE_ HO0_0.out hg hb; replace HO0_1 := vE_ HO0_1.out hg hb; replace HO0_3 := vE_ HO0_3.out hg hb; replace BK490 := kB_ BK490 hb; replace HB := hB_ hb; clear hb hbox hg) | ((with_reducible refine gate_dst (N := 7) rfl ?_); refine bE_ 7 #[.int .i64 0, .int .u64 0] 34 ?_; intro gb492 hg w7 hbox hb; have BK492 := Aside0.mk hbox; have GW492 := geT_ w.heap.size hg; have GE492 := geT_ w.heap.size hg; have NB490_492 := nlT_ BK490.out hg; have NB492_490 := ngT_ BK490.out hg; have NB491_492 := nlT_ BK491.out hg; have NB492_491 := ngT_ BK491.out hg; replace HO0_0 := vE_ HO0_0.out hg hb; replace HO0_1 := vE_ HO0_1.out hg hb; replace HO0_3 := vE_ HO0_3.out hg hb; replace BK490 := kB_ BK490 hb; replace BK491 := kB_ BK491 hb; replace HB := hB_ hb; clear hb hbox hg; have hnb8 := NB490_491.out; have hnc8 := NB491_490.out; have hnb9 := NB490_492.out; have hnc9 := NB492_490.out; obtain ⟨hcz10_0, hcz10_1, hcz10_2, hcz10_3, hfz10_0, hfz10_1, hfz10_2, hfz10_3⟩ := b4_ BK490.out) | ((with_reducible refine gate_callee (f := 39) rfl ?_); refine gL_ (some 11) Try.func39 #[.agg #[.slice A0_0 l0_0.length c0_0, .slice A0_1 l0_1.length c0_1, .int .u64 a0_2, .slice A0_3 l0_3.length c0_3], .int .u32 a1, .string a2, .int .i64 0] ?_; (with_reducible refine (gmem_put.calls k (fun k_ => (((((P0_0_ k_ ∨ P0_1_ k_ ∨ P0_3_ k_) ∨ w.heap.size ≤ k_) ∧ k_ ≠ gb490) ∧ k_ ≠ gb491) ∧ k_ ≠ gb492)) _ _ l0_0 (fun k_ => (((((P0_0_ k_ ∨ P0_1_ k_ ∨ P0_3_ k_) ∨ w.heap.size ≤ k_) ∧ k_ ≠ gb490) ∧ k_ ≠ gb491) ∧ k_ ≠ gb492)) _ _ l0_1 a0_2 (fun k_ => (((((P0_0_ k_ ∨ P0_1_ k_ ∨ P0_3_ k_) ∨ w.heap.size ≤ k_) ∧ k_ ≠ gb490) ∧ k_ ≠ gb491) ∧ k_ ≠ gb492)) _ _ l0_3 a1 a2 0 t493 t496 t499 t500 t503 t504 _ ?side1 ?side2 ?side3 A4.out).mono ?_); (case side1 => first | exact HO0_0.out | exact Kd.V_mono HO0_0.out (fun _ hk => by grind)); (case side2 => first | exact HO0_1.out | exact Kd.V_mono HO0_1.out (fun _ hk => by grind)); (case side3 => first | exact HO0_3.out | exact Kd.V_mono HO0_3.out (fun _ hk => by grind)); rintro e w11 ⟨v494, v497, v501, rfl, ho0, ho1, ho2, hb⟩; refine ⟨_, rfl, ?_⟩; have HO495 := Aside0.mk (Kd.V_lower (Kd.V_mono (ok' := fun k_ => ((P0_0_ k_ ∨ P0_1_ k_ ∨ P0_3_ k_) ∨ w.heap.size ≤ k_) ∧ k_ ≠ gb490 ∧ k_ ≠ gb491 ∧ k_ ≠ gb492) ho0 (fun k_ hk_ => ⟨Or.elim hk_ (fun hs_ => Or.elim hs_ (fun hs_ => hs_.1.1.1) (fun hs_ => Or.elim hs_ (fun hs_ => hs_.1.1.1) (fun hs_ => hs_.1.1.1))) (fun hn_ => (.inr (Nat.le_trans (below_size beT_) hn_))), Or.elim hk_ (fun hs_ => Or.elim hs_ (fun hs_ => hs_.1.1.2) (fun hs_ => Or.elim hs_ (fun hs_ => hs_.1.1.2) (fun hs_ => hs_.1.1.2))) (fun hn_ => (Kd.freshB (g := gb490) (o := .cells #[.slice A0_0 l0_0.length c0_0, .slice A0_1 l0_1.length c0_1, .int .u64 a0_2, .slice A0_3 l0_3.length c0_3] 29 (0, 0)) (bT_ BK490.out) k_ hn_)), Or.elim hk_ (fun hs_ => Or.elim hs_ (fun hs_ => hs_.1.2) (fun hs_ => Or.elim hs_ (fun hs_ => hs_.1.2) (fun hs_ => hs_.1.2))) (fun hn_ => (Kd.freshB (g := gb491) (o := .cells #[.slice none 0 0, .slice none 0 0, .int .u64 0, .slice none 0 0] 29 (0, 0)) (bT_ BK491.out) k_ hn_)), Or.elim hk_ (fun hs_ => Or.elim hs_ (fun hs_ => hs_.2) (fun hs_ => Or.elim hs_ (fun hs_ => hs_.2) (fun hs_ => hs_.2))) (fun hn_ => (Kd.freshB (g := gb492) (o := .cells #[.int .i64 0, .int .u64 0] 34 (0, 0)) (bT_ BK492.out) k_ hn_))⟩)) (below_size beT_)); have HO498 := Aside0.mk (Kd.V_lower (Kd.V_mono (ok' := fun k_ => ((P0_0_ k_ ∨ P0_1_ k_ ∨ P0_3_ k_) ∨ w.heap.size ≤ k_) ∧ k_ ≠ gb490 ∧ k_ ≠ gb491 ∧ k_ ≠ gb492) ho1 (fun k_ hk_ => ⟨Or.elim hk_ (fun hs_ => Or.elim hs_ (fun hs_ => hs_.1.1.1) (fun hs_ => Or.elim hs_ (fun hs_ => hs_.1.1.1) (fun hs_ => hs_.1.1.1))) (fun hn_ => (.inr (Nat.le_trans (below_size beT_) hn_))), Or.elim hk_ (fun hs_ => Or.elim hs_ (fun hs_ => hs_.1.1.2) (fun hs_ => Or.elim hs_ (fun hs_ => hs_.1.1.2) (fun hs_ => hs_.1.1.2))) (fun hn_ => (Kd.freshB (g := gb490) (o := .cells #[.slice A0_0 l0_0.length c0_0, .slice A0_1 l0_1.length c0_1, .int .u64 a0_2, .slice A0_3 l0_3.length c0_3] 29 (0, 0)) (bT_ BK490.out) k_ hn_)), Or.elim hk_ (fun hs_ => Or.elim hs_ (fun hs_ => hs_.1.2) (fun hs_ => Or.elim hs_ (fun hs_ => hs_.1.2) (fun hs_ => hs_.1.2))) (fun hn_ => (Kd.freshB (g := gb491) (o := .cells #[.slice none 0 0, .slice none 0 0, .int .u64 0, .slice none 0 0] 29 (0, 0)) (bT_ BK491.out) k_ hn_)), Or.elim hk_ (fun hs_ => Or.elim hs_ (fun hs_ => hs_.2) (fun hs_ => Or.elim hs_ (fun hs_ => hs_.2) (fun hs_ => hs_.2))) (fun hn_ => (Kd.freshB (g := gb492) (o := .cells #[.int .i64 0, .int .u64 0] 34 (0, 0)) (bT_ BK492.out) k_ hn_))⟩)) (below_size beT_)); have HO502 := Aside0.mk (Kd.V_lower (Kd.V_mono (ok' := fun k_ => ((P0_0_ k_ ∨ P0_1_ k_ ∨ P0_3_ k_) ∨ w.heap.size ≤ k_) ∧ k_ ≠ gb490 ∧ k_ ≠ gb491 ∧ k_ ≠ gb492) ho2 (fun k_ hk_ => ⟨Or.elim hk_ (fun hs_ => Or.elim hs_ (fun hs_ => hs_.1.1.1) (fun hs_ => Or.elim hs_ (fun hs_ => hs_.1.1.1) (fun hs_ => hs_.1.1.1))) (fun hn_ => (.inr (Nat.le_trans (below_size beT_) hn_))), Or.elim hk_ (fun hs_ => Or.elim hs_ (fun hs_ => hs_.1.1.2) (fun hs_ => Or.elim hs_ (fun hs_ => hs_.1.1.2) (fun hs_ => hs_.1.1.2))) (fun hn_ => (Kd.freshB (g := gb490) (o := .cells #[.slice A0_0 l0_0.length c0_0, .slice A0_1 l0_1.length c0_1, .int .u64 a0_2, .slice A0_3 l0_3.length c0_3] 29 (0, 0)) (bT_ BK490.out) k_ hn_)), Or.elim hk_ (fun hs_ => Or.elim hs_ (fun hs_ => hs_.1.2) (fun hs_ => Or.elim hs_ (fun hs_ => hs_.1.2) (fun hs_ => hs_.1.2))) (fun hn_ => (Kd.freshB (g := gb491) (o := .cells #[.slice none 0 0, .slice none 0 0, .int .u64 0, .slice none 0 0] 29 (0, 0)) (bT_ BK491.out) k_ hn_)), Or.elim hk_ (fun hs_ => Or.elim hs_ (fun hs_ => hs_.2) (fun hs_ => Or.elim hs_ (fun hs_ => hs_.2) (fun hs_ => hs_.2))) (fun hn_ => (Kd.freshB (g := gb492) (o := .cells #[.int .i64 0, .int .u64 0] 34 (0, 0)) (bT_ BK492.out) k_ hn_))⟩)) (below_size beT_)); replace HO0_0 := vB_ HO0_0.out hb; replace HO0_1 := vB_ HO0_1.out hb; replace HO0_3 := vB_ HO0_3.out hb; replace BK490 := kB_ BK490 hb; replace BK491 := kB_ BK491 hb; replace BK492 := kB_ BK492 hb; replace HB := hB_ hb; (try clear hb); (try clear hb2); (try clear hk); (try clear hi); (try clear ho0); (try clear ho1); (try clear ho2); obtain ⟨Ao12, co12, eo12⟩ := Kd.V_slice HO495.out; subst eo12; have hnb13 := NB491_492.out; have hnc13 := NB492_491.out; obtain ⟨hcz14_0, hcz14_1, hcz14_2, hcz14_3, hfz14_0, hfz14_1, hfz14_2, hfz14_3⟩ := b4_ BK491.out; obtain ⟨Ao15, co15, eo15⟩ := Kd.V_slice HO498.out; subst eo15; obtain ⟨Ao16, co16, eo16⟩ := Kd.V_slice HO502.out; subst eo16; obtain ⟨hcz17_0, hcz17_1, hfz17_0, hfz17_1⟩ := b2_ BK492.out))
  refine bodyPost_ret (results_cc rfl _ _ gb491 gb492 29 34 #[.slice Ao12 t493.length co12, .slice Ao15 t496.length co15, .int .u64 t499, .slice Ao16 t500.length co16] #[.int .i64 t503, .int .u64 t504] (0, 0) (0, 0) _ _ rfl (kP_ BK491.out) Try.underlying29 rfl (by kernel_rfl) rfl (kP_ BK492.out) Try.underlying34 rfl (by kernel_rfl)) rfl ?_
  exact ⟨_, _, _, r3_, (vF_ HO495.out), (vF_ HO498.out), (vF_ HO502.out), beT_⟩

end Go.Proofs.Ytgkjdpdmmlalcaa.F
end
section
namespace Go.Proofs.Ytgkjdpdmmlalcaa.F
open Go.RowKit Go.Proofs.YtgkjdpdmmlalcaaW.PrintWords Go.Proofs.YtgkjdpdmmlalcaaW.PrintLast Go.Proofs.YtgkjdpdmmlalcaaW.PrintMore
attribute [local go_sem] max2_int min2_int max_two min_two max_three min_three max_four min_four
attribute [local go_sem] cell_twice
set_option linter.unusedVariables false
set_option linter.unusedSimpArgs false

def ferryref05_Put.f (k : Nat) (l0_0 : List (S83)) (l0_1 : List (S88)) (a0_2 : Int) (l0_3 : List (S41)) (a1 : Int) (a2 : ByteArray) : Option ((List (S83)) × (List (S88)) × Int × (List (S41)) × Int × Int) := (ferryref05_put.f k l0_0 l0_1 a0_2 l0_3 a1 a2 2).bind fun bt478 => (some (bt478.1, bt478.2.1, bt478.2.2.1, bt478.2.2.2.1, bt478.2.2.2.2.1, bt478.2.2.2.2.2))
set_option maxHeartbeats 8000000 in
set_option maxRecDepth 100000 in
theorem ferryref05_Put.calls (k : Nat) (P0_0_ : Nat → Prop) (A0_0 : Option Addr) (c0_0 : Nat) (l0_0 : List (S83)) (P0_1_ : Nat → Prop) (A0_1 : Option Addr) (c0_1 : Nat) (l0_1 : List (S88)) (a0_2 : Int) (P0_3_ : Nat → Prop) (A0_3 : Option Addr) (c0_3 : Nat) (l0_3 : List (S41)) (a1 : Int) (a2 : ByteArray) (r1 : List (S83)) (r2 : List (S88)) (r3 : Int) (r4 : List (S41)) (r5 : Int) (r6 : Int) (w : World) (hs0_0 : Kd.V k83 83 w w.heap.size (fun k_ => P0_0_ k_) (.slice A0_0 l0_0.length c0_0) l0_0) (hs0_1 : Kd.V k88 88 w w.heap.size (fun k_ => P0_1_ k_) (.slice A0_1 l0_1.length c0_1) l0_1) (hs0_3 : Kd.V k41 41 w w.heap.size (fun k_ => P0_3_ k_) (.slice A0_3 l0_3.length c0_3) l0_3) (h : ferryref05_Put.f k l0_0 l0_1 a0_2 l0_3 a1 a2 = some (r1, r2, r3, r4, r5, r6)) :
    Calls Try.prog 18 #[.agg #[.slice A0_0 l0_0.length c0_0, .slice A0_1 l0_1.length c0_1, .int .u64 a0_2, .slice A0_3 l0_3.length c0_3], .int .u32 a1, .string a2] w fun e w' => ∃ v0_ v1_ v3_ : Value, e = .returned (.tuple #[.agg #[v0_, v1_, .int .u64 r3, v3_], .agg #[.int .i64 r5, .int .u64 r6]]) ∧ Kd.V k83 83 w' w.heap.size (fun k_ => ((P0_0_ k_ ∨ P0_1_ k_ ∨ P0_3_ k_) ∨ w.heap.size ≤ k_)) v0_ r1 ∧ Kd.V k88 88 w' w.heap.size (fun k_ => ((P0_0_ k_ ∨ P0_1_ k_ ∨ P0_3_ k_) ∨ w.heap.size ≤ k_)) v1_ r2 ∧ Kd.V k41 41 w' w.heap.size (fun k_ => ((P0_0_ k_ ∨ P0_1_ k_ ∨ P0_3_ k_) ∨ w.heap.size ≤ k_)) v3_ r4 ∧ Below w.heap.size w w' := by
  have hu29 := Try.underlying29
  have hu34 := Try.underlying34
  have HO0_0 := Aside0.mk (show Kd.V k83 83 w w.heap.size (fun k_ => ((P0_0_ k_ ∨ P0_1_ k_ ∨ P0_3_ k_) ∨ w.heap.size ≤ k_)) (.slice A0_0 l0_0.length c0_0) l0_0 from Kd.V_mono hs0_0 (fun k_ hk => .inl (.inl hk)))
  have HO0_1 := Aside0.mk (show Kd.V k88 88 w w.heap.size (fun k_ => ((P0_0_ k_ ∨ P0_1_ k_ ∨ P0_3_ k_) ∨ w.heap.size ≤ k_)) (.slice A0_1 l0_1.length c0_1) l0_1 from Kd.V_mono hs0_1 (fun k_ hk => .inl (.inr (.inl hk))))
  have HO0_3 := Aside0.mk (show Kd.V k41 41 w w.heap.size (fun k_ => ((P0_0_ k_ ∨ P0_1_ k_ ∨ P0_3_ k_) ∨ w.heap.size ≤ k_)) (.slice A0_3 l0_3.length c0_3) l0_3 from Kd.V_mono hs0_3 (fun k_ hk => .inl (.inr (.inr hk))))
  have HB := Aside0.mk (Below.refl w.heap.size w)
  have H : ((ferryref05_put.f k l0_0 l0_1 a0_2 l0_3 a1 a2 2).bind fun bt478 => (some (bt478.1, bt478.2.1, bt478.2.2.1, bt478.2.2.2.1, bt478.2.2.2.2.1, bt478.2.2.2.2.2))) = some (r1, r2, r3, r4, r5, r6) := h
  clear h
  replace H := Option.bind_eq_some_iff.mp H
  obtain ⟨⟨t478, t481, t484, t485, t488, t489⟩, A40, H⟩ := H
  have A4 := Aside0.mk A40
  clear A40
  simp only [Option.some.injEq, Prod.mk.injEq] at H
  obtain ⟨rfl, rfl, rfl, rfl, rfl, rfl⟩ := H
  go_enter Try.func18, Try.ntmps18
  go_wp2_with (first | ((with_reducible refine gate_dst (N := 3) rfl ?_); refine bE_ 3 #[.slice A0_0 l0_0.length c0_0, .slice A0_1 l0_1.length c0_1, .int .u64 a0_2, .slice A0_3 l0_3.length c0_3] 29 ?_; intro gb475 hg w5 hbox hb; have BK475 := Aside0.mk hbox; have GW475 := geT_ w.heap.size hg; have GE475 := geT_ w.heap.size hg; replace HO0_0 := vE_ HO0_0.out hg hb; replace HO0_1 := vE_ HO0_1.out hg hb; replace HO0_3 := vE_ HO0_3.out hg hb; replace HB := hB_ hb; clear hb hbox hg) | ((with_reducible refine gate_dst (N := 6) rfl ?_); refine bE_ 6 #[.slice none 0 0, .slice none 0 0, .int .u64 0, .slice none 0 0] 29 ?_; intro gb476 hg w6 hbox hb; have BK476 := Aside0.mk hbox; have GW476 := geT_ w.heap.size hg; have GE476 := geT_ w.heap.size hg; have NB475_476 := nlT_ BK475.out hg; have NB476_475 := ngT_ BK475.out hg; replace HO0_0 := vE_ HO0_0.out hg hb; replace HO0_1 := vE_ HO0_1.out hg hb; replace HO0_3 := vE_ HO0_3.out hg hb; replace BK475 := kB_ BK475 hb; replace HB := hB_ hb; clear hb hbox hg) | ((with_reducible refine gate_dst (N := 7) rfl ?_); refine bE_ 7 #[.int .i64 0, .int .u64 0] 34 ?_; intro gb477 hg w7 hbox hb; have BK477 := Aside0.mk hbox; have GW477 := geT_ w.heap.size hg; have GE477 := geT_ w.heap.size hg; have NB475_477 := nlT_ BK475.out hg; have NB477_475 := ngT_ BK475.out hg; have NB476_477 := nlT_ BK476.out hg; have NB477_476 := ngT_ BK476.out hg; replace HO0_0 := vE_ HO0_0.out hg hb; replace HO0_1 := vE_ HO0_1.out hg hb; replace HO0_3 := vE_ HO0_3.out hg hb; replace BK475 := kB_ BK475 hb; replace BK476 := kB_ BK476 hb; replace HB := hB_ hb; clear hb hbox hg; have hnb8 := NB475_476.out; have hnc8 := NB476_475.out; have hnb9 := NB475_477.out; have hnc9 := NB477_475.out; obtain ⟨hcz10_0, hcz10_1, hcz10_2, hcz10_3, hfz10_0, hfz10_1, hfz10_2, hfz10_3⟩ := b4_ BK475.out) | ((with_reducible refine gate_callee (f := 50) rfl ?_); refine gL_ (some 11) Try.func50 #[.agg #[.slice A0_0 l0_0.length c0_0, .slice A0_1 l0_1.length c0_1, .int .u64 a0_2, .slice A0_3 l0_3.length c0_3], .int .u32 a1, .string a2, .int .i64 2] ?_; (with_reducible refine (ferryref05_put.calls k (fun k_ => (((((P0_0_ k_ ∨ P0_1_ k_ ∨ P0_3_ k_) ∨ w.heap.size ≤ k_) ∧ k_ ≠ gb475) ∧ k_ ≠ gb476) ∧ k_ ≠ gb477)) _ _ l0_0 (fun k_ => (((((P0_0_ k_ ∨ P0_1_ k_ ∨ P0_3_ k_) ∨ w.heap.size ≤ k_) ∧ k_ ≠ gb475) ∧ k_ ≠ gb476) ∧ k_ ≠ gb477)) _ _ l0_1 a0_2 (fun k_ => (((((P0_0_ k_ ∨ P0_1_ k_ ∨ P0_3_ k_) ∨ w.heap.size ≤ k_) ∧ k_ ≠ gb475) ∧ k_ ≠ gb476) ∧ k_ ≠ gb477)) _ _ l0_3 a1 a2 2 t478 t481 t484 t485 t488 t489 _ ?side1 ?side2 ?side3 A4.out).mono ?_); (case side1 => first | exact HO0_0.out | exact Kd.V_mono HO0_0.out (fun _ hk => by grind)); (case side2 => first | exact HO0_1.out | exact Kd.V_mono HO0_1.out (fun _ hk => by grind)); (case side3 => first | exact HO0_3.out | exact Kd.V_mono HO0_3.out (fun _ hk => by grind)); rintro e w11 ⟨v479, v482, v486, rfl, ho0, ho1, ho2, hb⟩; refine ⟨_, rfl, ?_⟩; have HO480 := Aside0.mk (Kd.V_lower (Kd.V_mono (ok' := fun k_ => ((P0_0_ k_ ∨ P0_1_ k_ ∨ P0_3_ k_) ∨ w.heap.size ≤ k_) ∧ k_ ≠ gb475 ∧ k_ ≠ gb476 ∧ k_ ≠ gb477) ho0 (fun k_ hk_ => ⟨Or.elim hk_ (fun hs_ => Or.elim hs_ (fun hs_ => hs_.1.1.1) (fun hs_ => Or.elim hs_ (fun hs_ => hs_.1.1.1) (fun hs_ => hs_.1.1.1))) (fun hn_ => (.inr (Nat.le_trans (below_size beT_) hn_))), Or.elim hk_ (fun hs_ => Or.elim hs_ (fun hs_ => hs_.1.1.2) (fun hs_ => Or.elim hs_ (fun hs_ => hs_.1.1.2) (fun hs_ => hs_.1.1.2))) (fun hn_ => (Kd.freshB (g := gb475) (o := .cells #[.slice A0_0 l0_0.length c0_0, .slice A0_1 l0_1.length c0_1, .int .u64 a0_2, .slice A0_3 l0_3.length c0_3] 29 (0, 0)) (bT_ BK475.out) k_ hn_)), Or.elim hk_ (fun hs_ => Or.elim hs_ (fun hs_ => hs_.1.2) (fun hs_ => Or.elim hs_ (fun hs_ => hs_.1.2) (fun hs_ => hs_.1.2))) (fun hn_ => (Kd.freshB (g := gb476) (o := .cells #[.slice none 0 0, .slice none 0 0, .int .u64 0, .slice none 0 0] 29 (0, 0)) (bT_ BK476.out) k_ hn_)), Or.elim hk_ (fun hs_ => Or.elim hs_ (fun hs_ => hs_.2) (fun hs_ => Or.elim hs_ (fun hs_ => hs_.2) (fun hs_ => hs_.2))) (fun hn_ => (Kd.freshB (g := gb477) (o := .cells #[.int .i64 0, .int .u64 0] 34 (0, 0)) (bT_ BK477.out) k_ hn_))⟩)) (below_size beT_)); have HO483 := Aside0.mk (Kd.V_lower (Kd.V_mono (ok' := fun k_ => ((P0_0_ k_ ∨ P0_1_ k_ ∨ P0_3_ k_) ∨ w.heap.size ≤ k_) ∧ k_ ≠ gb475 ∧ k_ ≠ gb476 ∧ k_ ≠ gb477) ho1 (fun k_ hk_ => ⟨Or.elim hk_ (fun hs_ => Or.elim hs_ (fun hs_ => hs_.1.1.1) (fun hs_ => Or.elim hs_ (fun hs_ => hs_.1.1.1) (fun hs_ => hs_.1.1.1))) (fun hn_ => (.inr (Nat.le_trans (below_size beT_) hn_))), Or.elim hk_ (fun hs_ => Or.elim hs_ (fun hs_ => hs_.1.1.2) (fun hs_ => Or.elim hs_ (fun hs_ => hs_.1.1.2) (fun hs_ => hs_.1.1.2))) (fun hn_ => (Kd.freshB (g := gb475) (o := .cells #[.slice A0_0 l0_0.length c0_0, .slice A0_1 l0_1.length c0_1, .int .u64 a0_2, .slice A0_3 l0_3.length c0_3] 29 (0, 0)) (bT_ BK475.out) k_ hn_)), Or.elim hk_ (fun hs_ => Or.elim hs_ (fun hs_ => hs_.1.2) (fun hs_ => Or.elim hs_ (fun hs_ => hs_.1.2) (fun hs_ => hs_.1.2))) (fun hn_ => (Kd.freshB (g := gb476) (o := .cells #[.slice none 0 0, .slice none 0 0, .int .u64 0, .slice none 0 0] 29 (0, 0)) (bT_ BK476.out) k_ hn_)), Or.elim hk_ (fun hs_ => Or.elim hs_ (fun hs_ => hs_.2) (fun hs_ => Or.elim hs_ (fun hs_ => hs_.2) (fun hs_ => hs_.2))) (fun hn_ => (Kd.freshB (g := gb477) (o := .cells #[.int .i64 0, .int .u64 0] 34 (0, 0)) (bT_ BK477.out) k_ hn_))⟩)) (below_size beT_)); have HO487 := Aside0.mk (Kd.V_lower (Kd.V_mono (ok' := fun k_ => ((P0_0_ k_ ∨ P0_1_ k_ ∨ P0_3_ k_) ∨ w.heap.size ≤ k_) ∧ k_ ≠ gb475 ∧ k_ ≠ gb476 ∧ k_ ≠ gb477) ho2 (fun k_ hk_ => ⟨Or.elim hk_ (fun hs_ => Or.elim hs_ (fun hs_ => hs_.1.1.1) (fun hs_ => Or.elim hs_ (fun hs_ => hs_.1.1.1) (fun hs_ => hs_.1.1.1))) (fun hn_ => (.inr (Nat.le_trans (below_size beT_) hn_))), Or.elim hk_ (fun hs_ => Or.elim hs_ (fun hs_ => hs_.1.1.2) (fun hs_ => Or.elim hs_ (fun hs_ => hs_.1.1.2) (fun hs_ => hs_.1.1.2))) (fun hn_ => (Kd.freshB (g := gb475) (o := .cells #[.slice A0_0 l0_0.length c0_0, .slice A0_1 l0_1.length c0_1, .int .u64 a0_2, .slice A0_3 l0_3.length c0_3] 29 (0, 0)) (bT_ BK475.out) k_ hn_)), Or.elim hk_ (fun hs_ => Or.elim hs_ (fun hs_ => hs_.1.2) (fun hs_ => Or.elim hs_ (fun hs_ => hs_.1.2) (fun hs_ => hs_.1.2))) (fun hn_ => (Kd.freshB (g := gb476) (o := .cells #[.slice none 0 0, .slice none 0 0, .int .u64 0, .slice none 0 0] 29 (0, 0)) (bT_ BK476.out) k_ hn_)), Or.elim hk_ (fun hs_ => Or.elim hs_ (fun hs_ => hs_.2) (fun hs_ => Or.elim hs_ (fun hs_ => hs_.2) (fun hs_ => hs_.2))) (fun hn_ => (Kd.freshB (g := gb477) (o := .cells #[.int .i64 0, .int .u64 0] 34 (0, 0)) (bT_ BK477.out) k_ hn_))⟩)) (below_size beT_)); replace HO0_0 := vB_ HO0_0.out hb; replace HO0_1 := vB_ HO0_1.out hb; replace HO0_3 := vB_ HO0_3.out hb; replace BK475 := kB_ BK475 hb; replace BK476 := kB_ BK476 hb; replace BK477 := kB_ BK477 hb; replace HB := hB_ hb; (try clear hb); (try clear hb2); (try clear hk); (try clear hi); (try clear ho0); (try clear ho1); (try clear ho2); obtain ⟨Ao12, co12, eo12⟩ := Kd.V_slice HO480.out; subst eo12; have hnb13 := NB476_477.out; have hnc13 := NB477_476.out; obtain ⟨hcz14_0, hcz14_1, hcz14_2, hcz14_3, hfz14_0, hfz14_1, hfz14_2, hfz14_3⟩ := b4_ BK476.out; obtain ⟨Ao15, co15, eo15⟩ := Kd.V_slice HO483.out; subst eo15; obtain ⟨Ao16, co16, eo16⟩ := Kd.V_slice HO487.out; subst eo16; obtain ⟨hcz17_0, hcz17_1, hfz17_0, hfz17_1⟩ := b2_ BK477.out))
  refine bodyPost_ret (results_cc rfl _ _ gb476 gb477 29 34 #[.slice Ao12 t478.length co12, .slice Ao15 t481.length co15, .int .u64 t484, .slice Ao16 t485.length co16] #[.int .i64 t488, .int .u64 t489] (0, 0) (0, 0) _ _ rfl (kP_ BK476.out) Try.underlying29 rfl (by kernel_rfl) rfl (kP_ BK477.out) Try.underlying34 rfl (by kernel_rfl)) rfl ?_
  exact ⟨_, _, _, r3_, (vF_ HO480.out), (vF_ HO483.out), (vF_ HO487.out), beT_⟩

end Go.Proofs.Ytgkjdpdmmlalcaa.F
end
section
namespace Go.Proofs.Ytgkjdpdmmlalcaa.F
open Go.RowKit Go.Proofs.YtgkjdpdmmlalcaaW.PrintWords Go.Proofs.YtgkjdpdmmlalcaaW.PrintLast Go.Proofs.YtgkjdpdmmlalcaaW.PrintMore
attribute [local go_sem] max2_int min2_int max_two min_two max_three min_three max_four min_four
attribute [local go_sem] cell_twice
set_option linter.unusedVariables false
set_option linter.unusedSimpArgs false

def ferryref05_Poke.f (k : Nat) (l0_0 : List (S83)) (l0_1 : List (S88)) (a0_2 : Int) (l0_3 : List (S41)) (a1 : Int) (a2 : ByteArray) : Option ((List (S83)) × (List (S88)) × Int × (List (S41)) × Int × Int) := (ferryref05_put.f k l0_0 l0_1 a0_2 l0_3 a1 a2 0).bind fun bt508 => (some (bt508.1, bt508.2.1, bt508.2.2.1, bt508.2.2.2.1, bt508.2.2.2.2.1, bt508.2.2.2.2.2))
set_option maxHeartbeats 8000000 in
set_option maxRecDepth 100000 in
theorem ferryref05_Poke.calls (k : Nat) (P0_0_ : Nat → Prop) (A0_0 : Option Addr) (c0_0 : Nat) (l0_0 : List (S83)) (P0_1_ : Nat → Prop) (A0_1 : Option Addr) (c0_1 : Nat) (l0_1 : List (S88)) (a0_2 : Int) (P0_3_ : Nat → Prop) (A0_3 : Option Addr) (c0_3 : Nat) (l0_3 : List (S41)) (a1 : Int) (a2 : ByteArray) (r1 : List (S83)) (r2 : List (S88)) (r3 : Int) (r4 : List (S41)) (r5 : Int) (r6 : Int) (w : World) (hs0_0 : Kd.V k83 83 w w.heap.size (fun k_ => P0_0_ k_) (.slice A0_0 l0_0.length c0_0) l0_0) (hs0_1 : Kd.V k88 88 w w.heap.size (fun k_ => P0_1_ k_) (.slice A0_1 l0_1.length c0_1) l0_1) (hs0_3 : Kd.V k41 41 w w.heap.size (fun k_ => P0_3_ k_) (.slice A0_3 l0_3.length c0_3) l0_3) (h : ferryref05_Poke.f k l0_0 l0_1 a0_2 l0_3 a1 a2 = some (r1, r2, r3, r4, r5, r6)) :
    Calls Try.prog 20 #[.agg #[.slice A0_0 l0_0.length c0_0, .slice A0_1 l0_1.length c0_1, .int .u64 a0_2, .slice A0_3 l0_3.length c0_3], .int .u32 a1, .string a2] w fun e w' => ∃ v0_ v1_ v3_ : Value, e = .returned (.tuple #[.agg #[v0_, v1_, .int .u64 r3, v3_], .agg #[.int .i64 r5, .int .u64 r6]]) ∧ Kd.V k83 83 w' w.heap.size (fun k_ => ((P0_0_ k_ ∨ P0_1_ k_ ∨ P0_3_ k_) ∨ w.heap.size ≤ k_)) v0_ r1 ∧ Kd.V k88 88 w' w.heap.size (fun k_ => ((P0_0_ k_ ∨ P0_1_ k_ ∨ P0_3_ k_) ∨ w.heap.size ≤ k_)) v1_ r2 ∧ Kd.V k41 41 w' w.heap.size (fun k_ => ((P0_0_ k_ ∨ P0_1_ k_ ∨ P0_3_ k_) ∨ w.heap.size ≤ k_)) v3_ r4 ∧ Below w.heap.size w w' := by
  have hu29 := Try.underlying29
  have hu34 := Try.underlying34
  have HO0_0 := Aside0.mk (show Kd.V k83 83 w w.heap.size (fun k_ => ((P0_0_ k_ ∨ P0_1_ k_ ∨ P0_3_ k_) ∨ w.heap.size ≤ k_)) (.slice A0_0 l0_0.length c0_0) l0_0 from Kd.V_mono hs0_0 (fun k_ hk => .inl (.inl hk)))
  have HO0_1 := Aside0.mk (show Kd.V k88 88 w w.heap.size (fun k_ => ((P0_0_ k_ ∨ P0_1_ k_ ∨ P0_3_ k_) ∨ w.heap.size ≤ k_)) (.slice A0_1 l0_1.length c0_1) l0_1 from Kd.V_mono hs0_1 (fun k_ hk => .inl (.inr (.inl hk))))
  have HO0_3 := Aside0.mk (show Kd.V k41 41 w w.heap.size (fun k_ => ((P0_0_ k_ ∨ P0_1_ k_ ∨ P0_3_ k_) ∨ w.heap.size ≤ k_)) (.slice A0_3 l0_3.length c0_3) l0_3 from Kd.V_mono hs0_3 (fun k_ hk => .inl (.inr (.inr hk))))
  have HB := Aside0.mk (Below.refl w.heap.size w)
  have H : ((ferryref05_put.f k l0_0 l0_1 a0_2 l0_3 a1 a2 0).bind fun bt508 => (some (bt508.1, bt508.2.1, bt508.2.2.1, bt508.2.2.2.1, bt508.2.2.2.2.1, bt508.2.2.2.2.2))) = some (r1, r2, r3, r4, r5, r6) := h
  clear h
  replace H := Option.bind_eq_some_iff.mp H
  obtain ⟨⟨t508, t511, t514, t515, t518, t519⟩, A40, H⟩ := H
  have A4 := Aside0.mk A40
  clear A40
  simp only [Option.some.injEq, Prod.mk.injEq] at H
  obtain ⟨rfl, rfl, rfl, rfl, rfl, rfl⟩ := H
  go_enter Try.func20, Try.ntmps20
  go_wp2_with (first | ((with_reducible refine gate_dst (N := 3) rfl ?_); refine bE_ 3 #[.slice A0_0 l0_0.length c0_0, .slice A0_1 l0_1.length c0_1, .int .u64 a0_2, .slice A0_3 l0_3.length c0_3] 29 ?_; intro gb505 hg w5 hbox hb; have BK505 := Aside0.mk hbox; have GW505 := geT_ w.heap.size hg; have GE505 := geT_ w.heap.size hg; replace HO0_0 := vE_ HO0_0.out hg hb; replace HO0_1 := vE_ HO0_1.out hg hb; replace HO0_3 := vE_ HO0_3.out hg hb; replace HB := hB_ hb; clear hb hbox hg) | ((with_reducible refine gate_dst (N := 6) rfl ?_); refine bE_ 6 #[.slice none 0 0, .slice none 0 0, .int .u64 0, .slice none 0 0] 29 ?_; intro gb506 hg w6 hbox hb; have BK506 := Aside0.mk hbox; have GW506 := geT_ w.heap.size hg; have GE506 := geT_ w.heap.size hg; have NB505_506 := nlT_ BK505.out hg; have NB506_505 := ngT_ BK505.out hg; replace HO0_0 := vE_ HO0_0.out hg hb; replace HO0_1 := vE_ HO0_1.out hg hb; replace HO0_3 := vE_ HO0_3.out hg hb; replace BK505 := kB_ BK505 hb; replace HB := hB_ hb; clear hb hbox hg) | ((with_reducible refine gate_dst (N := 7) rfl ?_); refine bE_ 7 #[.int .i64 0, .int .u64 0] 34 ?_; intro gb507 hg w7 hbox hb; have BK507 := Aside0.mk hbox; have GW507 := geT_ w.heap.size hg; have GE507 := geT_ w.heap.size hg; have NB505_507 := nlT_ BK505.out hg; have NB507_505 := ngT_ BK505.out hg; have NB506_507 := nlT_ BK506.out hg; have NB507_506 := ngT_ BK506.out hg; replace HO0_0 := vE_ HO0_0.out hg hb; replace HO0_1 := vE_ HO0_1.out hg hb; replace HO0_3 := vE_ HO0_3.out hg hb; replace BK505 := kB_ BK505 hb; replace BK506 := kB_ BK506 hb; replace HB := hB_ hb; clear hb hbox hg; have hnb8 := NB505_506.out; have hnc8 := NB506_505.out; have hnb9 := NB505_507.out; have hnc9 := NB507_505.out; obtain ⟨hcz10_0, hcz10_1, hcz10_2, hcz10_3, hfz10_0, hfz10_1, hfz10_2, hfz10_3⟩ := b4_ BK505.out) | ((with_reducible refine gate_callee (f := 50) rfl ?_); refine gL_ (some 11) Try.func50 #[.agg #[.slice A0_0 l0_0.length c0_0, .slice A0_1 l0_1.length c0_1, .int .u64 a0_2, .slice A0_3 l0_3.length c0_3], .int .u32 a1, .string a2, .int .i64 0] ?_; (with_reducible refine (ferryref05_put.calls k (fun k_ => (((((P0_0_ k_ ∨ P0_1_ k_ ∨ P0_3_ k_) ∨ w.heap.size ≤ k_) ∧ k_ ≠ gb505) ∧ k_ ≠ gb506) ∧ k_ ≠ gb507)) _ _ l0_0 (fun k_ => (((((P0_0_ k_ ∨ P0_1_ k_ ∨ P0_3_ k_) ∨ w.heap.size ≤ k_) ∧ k_ ≠ gb505) ∧ k_ ≠ gb506) ∧ k_ ≠ gb507)) _ _ l0_1 a0_2 (fun k_ => (((((P0_0_ k_ ∨ P0_1_ k_ ∨ P0_3_ k_) ∨ w.heap.size ≤ k_) ∧ k_ ≠ gb505) ∧ k_ ≠ gb506) ∧ k_ ≠ gb507)) _ _ l0_3 a1 a2 0 t508 t511 t514 t515 t518 t519 _ ?side1 ?side2 ?side3 A4.out).mono ?_); (case side1 => first | exact HO0_0.out | exact Kd.V_mono HO0_0.out (fun _ hk => by grind)); (case side2 => first | exact HO0_1.out | exact Kd.V_mono HO0_1.out (fun _ hk => by grind)); (case side3 => first | exact HO0_3.out | exact Kd.V_mono HO0_3.out (fun _ hk => by grind)); rintro e w11 ⟨v509, v512, v516, rfl, ho0, ho1, ho2, hb⟩; refine ⟨_, rfl, ?_⟩; have HO510 := Aside0.mk (Kd.V_lower (Kd.V_mono (ok' := fun k_ => ((P0_0_ k_ ∨ P0_1_ k_ ∨ P0_3_ k_) ∨ w.heap.size ≤ k_) ∧ k_ ≠ gb505 ∧ k_ ≠ gb506 ∧ k_ ≠ gb507) ho0 (fun k_ hk_ => ⟨Or.elim hk_ (fun hs_ => Or.elim hs_ (fun hs_ => hs_.1.1.1) (fun hs_ => Or.elim hs_ (fun hs_ => hs_.1.1.1) (fun hs_ => hs_.1.1.1))) (fun hn_ => (.inr (Nat.le_trans (below_size beT_) hn_))), Or.elim hk_ (fun hs_ => Or.elim hs_ (fun hs_ => hs_.1.1.2) (fun hs_ => Or.elim hs_ (fun hs_ => hs_.1.1.2) (fun hs_ => hs_.1.1.2))) (fun hn_ => (Kd.freshB (g := gb505) (o := .cells #[.slice A0_0 l0_0.length c0_0, .slice A0_1 l0_1.length c0_1, .int .u64 a0_2, .slice A0_3 l0_3.length c0_3] 29 (0, 0)) (bT_ BK505.out) k_ hn_)), Or.elim hk_ (fun hs_ => Or.elim hs_ (fun hs_ => hs_.1.2) (fun hs_ => Or.elim hs_ (fun hs_ => hs_.1.2) (fun hs_ => hs_.1.2))) (fun hn_ => (Kd.freshB (g := gb506) (o := .cells #[.slice none 0 0, .slice none 0 0, .int .u64 0, .slice none 0 0] 29 (0, 0)) (bT_ BK506.out) k_ hn_)), Or.elim hk_ (fun hs_ => Or.elim hs_ (fun hs_ => hs_.2) (fun hs_ => Or.elim hs_ (fun hs_ => hs_.2) (fun hs_ => hs_.2))) (fun hn_ => (Kd.freshB (g := gb507) (o := .cells #[.int .i64 0, .int .u64 0] 34 (0, 0)) (bT_ BK507.out) k_ hn_))⟩)) (below_size beT_)); have HO513 := Aside0.mk (Kd.V_lower (Kd.V_mono (ok' := fun k_ => ((P0_0_ k_ ∨ P0_1_ k_ ∨ P0_3_ k_) ∨ w.heap.size ≤ k_) ∧ k_ ≠ gb505 ∧ k_ ≠ gb506 ∧ k_ ≠ gb507) ho1 (fun k_ hk_ => ⟨Or.elim hk_ (fun hs_ => Or.elim hs_ (fun hs_ => hs_.1.1.1) (fun hs_ => Or.elim hs_ (fun hs_ => hs_.1.1.1) (fun hs_ => hs_.1.1.1))) (fun hn_ => (.inr (Nat.le_trans (below_size beT_) hn_))), Or.elim hk_ (fun hs_ => Or.elim hs_ (fun hs_ => hs_.1.1.2) (fun hs_ => Or.elim hs_ (fun hs_ => hs_.1.1.2) (fun hs_ => hs_.1.1.2))) (fun hn_ => (Kd.freshB (g := gb505) (o := .cells #[.slice A0_0 l0_0.length c0_0, .slice A0_1 l0_1.length c0_1, .int .u64 a0_2, .slice A0_3 l0_3.length c0_3] 29 (0, 0)) (bT_ BK505.out) k_ hn_)), Or.elim hk_ (fun hs_ => Or.elim hs_ (fun hs_ => hs_.1.2) (fun hs_ => Or.elim hs_ (fun hs_ => hs_.1.2) (fun hs_ => hs_.1.2))) (fun hn_ => (Kd.freshB (g := gb506) (o := .cells #[.slice none 0 0, .slice none 0 0, .int .u64 0, .slice none 0 0] 29 (0, 0)) (bT_ BK506.out) k_ hn_)), Or.elim hk_ (fun hs_ => Or.elim hs_ (fun hs_ => hs_.2) (fun hs_ => Or.elim hs_ (fun hs_ => hs_.2) (fun hs_ => hs_.2))) (fun hn_ => (Kd.freshB (g := gb507) (o := .cells #[.int .i64 0, .int .u64 0] 34 (0, 0)) (bT_ BK507.out) k_ hn_))⟩)) (below_size beT_)); have HO517 := Aside0.mk (Kd.V_lower (Kd.V_mono (ok' := fun k_ => ((P0_0_ k_ ∨ P0_1_ k_ ∨ P0_3_ k_) ∨ w.heap.size ≤ k_) ∧ k_ ≠ gb505 ∧ k_ ≠ gb506 ∧ k_ ≠ gb507) ho2 (fun k_ hk_ => ⟨Or.elim hk_ (fun hs_ => Or.elim hs_ (fun hs_ => hs_.1.1.1) (fun hs_ => Or.elim hs_ (fun hs_ => hs_.1.1.1) (fun hs_ => hs_.1.1.1))) (fun hn_ => (.inr (Nat.le_trans (below_size beT_) hn_))), Or.elim hk_ (fun hs_ => Or.elim hs_ (fun hs_ => hs_.1.1.2) (fun hs_ => Or.elim hs_ (fun hs_ => hs_.1.1.2) (fun hs_ => hs_.1.1.2))) (fun hn_ => (Kd.freshB (g := gb505) (o := .cells #[.slice A0_0 l0_0.length c0_0, .slice A0_1 l0_1.length c0_1, .int .u64 a0_2, .slice A0_3 l0_3.length c0_3] 29 (0, 0)) (bT_ BK505.out) k_ hn_)), Or.elim hk_ (fun hs_ => Or.elim hs_ (fun hs_ => hs_.1.2) (fun hs_ => Or.elim hs_ (fun hs_ => hs_.1.2) (fun hs_ => hs_.1.2))) (fun hn_ => (Kd.freshB (g := gb506) (o := .cells #[.slice none 0 0, .slice none 0 0, .int .u64 0, .slice none 0 0] 29 (0, 0)) (bT_ BK506.out) k_ hn_)), Or.elim hk_ (fun hs_ => Or.elim hs_ (fun hs_ => hs_.2) (fun hs_ => Or.elim hs_ (fun hs_ => hs_.2) (fun hs_ => hs_.2))) (fun hn_ => (Kd.freshB (g := gb507) (o := .cells #[.int .i64 0, .int .u64 0] 34 (0, 0)) (bT_ BK507.out) k_ hn_))⟩)) (below_size beT_)); replace HO0_0 := vB_ HO0_0.out hb; replace HO0_1 := vB_ HO0_1.out hb; replace HO0_3 := vB_ HO0_3.out hb; replace BK505 := kB_ BK505 hb; replace BK506 := kB_ BK506 hb; replace BK507 := kB_ BK507 hb; replace HB := hB_ hb; (try clear hb); (try clear hb2); (try clear hk); (try clear hi); (try clear ho0); (try clear ho1); (try clear ho2); obtain ⟨Ao12, co12, eo12⟩ := Kd.V_slice HO510.out; subst eo12; have hnb13 := NB506_507.out; have hnc13 := NB507_506.out; obtain ⟨hcz14_0, hcz14_1, hcz14_2, hcz14_3, hfz14_0, hfz14_1, hfz14_2, hfz14_3⟩ := b4_ BK506.out; obtain ⟨Ao15, co15, eo15⟩ := Kd.V_slice HO513.out; subst eo15; obtain ⟨Ao16, co16, eo16⟩ := Kd.V_slice HO517.out; subst eo16; obtain ⟨hcz17_0, hcz17_1, hfz17_0, hfz17_1⟩ := b2_ BK507.out))
  refine bodyPost_ret (results_cc rfl _ _ gb506 gb507 29 34 #[.slice Ao12 t508.length co12, .slice Ao15 t511.length co15, .int .u64 t514, .slice Ao16 t515.length co16] #[.int .i64 t518, .int .u64 t519] (0, 0) (0, 0) _ _ rfl (kP_ BK506.out) Try.underlying29 rfl (by kernel_rfl) rfl (kP_ BK507.out) Try.underlying34 rfl (by kernel_rfl)) rfl ?_
  exact ⟨_, _, _, r3_, (vF_ HO510.out), (vF_ HO513.out), (vF_ HO517.out), beT_⟩

end Go.Proofs.Ytgkjdpdmmlalcaa.F
end
