import Derived.Test.YtgkjdpdmmlalcaaKZF0
import Derived.Test.YtgkjdpdmmlalcaaKA0
import Derived.Test.YtgkjdpdmmlalcaaKA2HHost0
import Derived.Test.YtgkjdpdmmlalcaaKA3
import Derived.Test.YtgkjdpdmmlalcaaKA5
import Derived.Test.YtgkjdpdmmlalcaaKA8HHost6
import Derived.Test.YtgkjdpdmmlalcaaKA9FFerryref03Poke
import Derived.Test.YtgkjdpdmmlalcaaKA10PHost6
import Derived.Test.YtgkjdpdmmlalcaaKA11FFerryref03Store
section
namespace Go.Proofs.Ytgkjdpdmmlalcaa.F
open Go.RowKit Go.Shelf Go.Proofs.YtgkjdpdmmlalcaaW.PrintWords Go.Proofs.YtgkjdpdmmlalcaaW.PrintLast Go.Proofs.YtgkjdpdmmlalcaaW.PrintMore
set_option linter.unusedVariables false
set_option linter.unusedSimpArgs false
def pk (m : List SC) (a : Nat) : Nat := byteAt (wN m (a - a % 8)) (a % 8)
theorem pk_lt (m : List SC) (a : Nat) : pk m a < 256 := byteAt_lt _ _
theorem pk_at (m : List SC) {a k : Nat} (ha : a % 8 = 0) (hk : k < 8) : pk m (a + k) = byteAt (wN m a) k := by
  unfold pk
  rw [show (a + k) % 8 = k by omega, show a + k - k = a by omega]
theorem pk_ext {m m' : List SC} (h : CellsH m) (h' : CellsH m') (e : ∀ a, pk m a = pk m' a) : m = m' := cells_ext h h' (fun a ha => word_ext (h.wN_lt a) (h'.wN_lt a) (fun k hk => by
  have := e (a + k)
  rwa [pk_at m ha hk, pk_at m' ha hk] at this))
theorem low_u64 {a : Nat} (h : a < 18446744073709551616) : IntKind.u64.wrap ((a : Int) - Int.tmod (a : Int) 8) = ((a - a % 8 : Nat) : Int) := by
  rw [Int.tmod_eq_emod_of_nonneg (by omega), u64w]
  omega
theorem off_u64 {a : Nat} : IntKind.u64.wrap (8 * Int.tmod (a : Int) 8) = ((8 * (a % 8) : Nat) : Int) := by
  rw [Int.tmod_eq_emod_of_nonneg (by omega), u64w]
  omega
theorem shr_bytes (w o : Nat) (ho : o ≤ 8) : shr .u64 (w : Int) ((8 * o : Nat) : Int) = ((w / 256 ^ o : Nat) : Int) := by
  unfold shr
  rw [Int.toNat_natCast, Nat.min_eq_left (show 8 * o ≤ IntKind.u64.bits by show 8 * o ≤ 64; omega), ← p256]
  simp
theorem shl_bytes (w o : Nat) (ho : o ≤ 8) : shl .u64 (w : Int) ((8 * o : Nat) : Int) = ((w * 256 ^ o % 256 ^ 8 : Nat) : Int) := by
  unfold shl
  rw [Int.toNat_natCast, Nat.min_eq_left (show 8 * o ≤ IntKind.u64.bits by show 8 * o ≤ 64; omega), u64w, p256_8, ← p256]
  simp
def pokeN (m : List SC) (a b : Nat) : List SC := setL ((a - a % 8 : Nat) : Int) ((putIn (wN m (a - a % 8)) (a % 8) 1 b : Nat) : Int) m
theorem wN_setL {m : List SC} (h : CellsH m) (a u x : Nat) : wN (setL (a : Int) (u : Int) m) x = if x = a then u else wN m x := by
  unfold wN
  rw [wrd_setL h.mr]
  by_cases e : x = a
  · rw [if_pos (by omega), if_pos e, Int.toNat_natCast]
  rw [if_neg (by omega), if_neg e]
theorem CellsH.putW {m : List SC} (h : CellsH m) {a o n v : Nat} (ha : a < 18446744073709551616) (h8 : a % 8 = 0) (ho : o + n ≤ 8) : CellsH (setL (a : Int) ((putIn (wN m a) o n v : Nat) : Int) m) := by
  have := putIn_lt (v := v) (h.wN_lt a) ho
  rw [p256_8] at this
  exact h.set (by omega) (by omega) (by omega) (by omega) (by omega)
theorem pk_putW {m : List SC} (h : CellsH m) {a o n v : Nat} (h8 : a % 8 = 0) (ho : o + n ≤ 8) (x : Nat) : pk (setL (a : Int) ((putIn (wN m a) o n v : Nat) : Int) m) x = if a + o ≤ x ∧ x < a + o + n then byteAt v (x - (a + o)) else pk m x := by
  unfold pk
  rw [wN_setL h]
  by_cases e : x - x % 8 = a
  · rw [if_pos e, byteAt_putIn, e]
    by_cases h1 : x % 8 < o
    · rw [if_pos h1, if_neg (by omega)]
    rw [if_neg h1]
    by_cases h2 : x % 8 < o + n
    · rw [if_pos h2, if_pos (by omega)]
      congr 1
      omega
    rw [if_neg h2, if_neg (by omega)]
  rw [if_neg e, if_neg (by omega)]
theorem CellsH.poke {m : List SC} (h : CellsH m) {a b : Nat} (ha : a < 18446744073709551616) : CellsH (pokeN m a b) := h.putW (by omega) (by omega) (by omega)
theorem pk_poke {m : List SC} (h : CellsH m) (a b x : Nat) : pk (pokeN m a b) x = if x = a then b % 256 else pk m x := by
  unfold pokeN
  rw [pk_putW h (by omega) (by omega)]
  by_cases e : x = a
  · rw [if_pos (by omega), if_pos e, show x - (a - a % 8 + a % 8) = 0 by omega]
    unfold byteAt
    simp
  rw [if_neg (by omega), if_neg e]
theorem ref_poke_l0 (l : List SM) {m : List SC} (hr : Rises clK m) (hm : m.length ≤ 1000000) (a u : Int) : ∀ (k i : Nat) (o : List SC) (done : Bool), i ≤ m.length → 2 * (m.length - i) < k → o.length ≤ 2 * i + 1 →
    ferryref03_poke.l0 k a u o done (i : Int) l m = some (l, o ++ if done = true then (m.drop i).filter (fun x => !decide (x.f0 = a)) else (m.drop i).take (lowB clK a (m.drop i)) ++ [⟨a, u⟩] ++ ((m.drop i).drop (lowB clK a (m.drop i))).filter (fun x => !decide (x.f0 = a)))
  | 0, i, _, _, _, h, _ => by omega
  | 1, i, o, done, hi, h, ho => by
    obtain rfl : i = m.length := by omega
    unfold ferryref03_poke.l0
    rw [if_neg (by omega), List.drop_eq_nil_of_le (by omega)]
    cases done
    · rw [if_neg (by decide), if_pos (by omega), if_neg (by decide)]
      rfl
    · rw [if_pos rfl, if_pos rfl]
      simp
  | k + 2, i, o, done, hi, h, ho => by
    by_cases hlt : i < m.length
    · have hw : wrap64 ((i : Int) + 1) = ((i + 1 : Nat) : Int) := by unfold wrap64; omega
      have hr2 : Rises clK (m.drop i) := rises_right clK (l := m.take i) (by rw [List.take_append_drop]; exact hr)
      have ih := fun o2 d2 ho2 => ref_poke_l0 l hr hm a u k (i + 1) o2 d2 hlt (by omega) ho2
      rw [List.drop_eq_getElem_cons hlt] at hr2 ⊢
      unfold ferryref03_poke.l0
      rw [if_pos (by omega)]
      have e : (⟨m[i].f0, m[i].f1⟩ : SC) = m[i] := rfl
      have hcap : ∀ q : List SC, q.length ≤ 2 * i + 2 → q.length < 8796093022208 := fun q hq => by omega
      cases done with
      | true =>
        rw [if_pos rfl, if_pos rfl, List.filter_cons]
        unfold ferryref03_poke.j1
        rw [if_neg (show ¬ (false = true) by decide), if_pos (show (0 : Int) ≤ (i : Int) by omega), if_pos (show (i : Int) < (m.length : Int) by omega), cl_getR hlt, hw, e]
        by_cases hx : m[i].f0 = a
        · rw [if_pos hx, decide_eq_true hx, if_neg (by simp), ih o true (by omega), if_pos rfl]
        rw [if_neg hx, decide_eq_false hx, if_pos (hcap o (by omega)), if_pos (by simp), ih _ true (by simp; omega), if_pos rfl, List.append_assoc]
        rfl
      | false =>
        rw [if_neg (show ¬ (false = true) by decide), if_neg (show ¬ (false = true) by decide), if_pos (show (0 : Int) ≤ (i : Int) by omega), cl_getR hlt]
        unfold ferryref03_poke.j1
        have hlow : lowB clK a (m[i] :: m.drop (i + 1)) = if m[i].f0 < a then lowB clK a (m.drop (i + 1)) + 1 else 0 := rfl
        rw [hlow]
        by_cases hge : m[i].f0 ≥ a
        · rw [if_neg (show ¬ m[i].f0 < a by omega), decide_eq_true hge, if_pos rfl, if_pos (hcap o (by omega)), Option.bind_some, if_pos (show (0 : Int) ≤ (i : Int) by omega), if_pos (show (i : Int) < (m.length : Int) by omega), cl_getR hlt, hw, List.take_zero, List.drop_zero, List.nil_append, List.filter_cons, e]
          by_cases hx : m[i].f0 = a
          · rw [if_pos hx, decide_eq_true hx, if_neg (by simp), ih _ true (by simp; omega), if_pos rfl, List.append_assoc]
          rw [if_neg hx, decide_eq_false hx, if_pos (hcap _ (by simp; omega)), if_pos (by simp), ih _ true (by simp; omega), if_pos rfl]
          simp only [List.append_assoc, List.singleton_append, List.cons_append, List.nil_append]
        rw [if_pos (show m[i].f0 < a by omega), decide_eq_false hge, if_neg (show ¬ (false = true) by decide), if_pos (show (0 : Int) ≤ (i : Int) by omega), if_pos (show (i : Int) < (m.length : Int) by omega), cl_getR hlt, hw, if_neg (show ¬ m[i].f0 = a by omega), if_pos (hcap o (by omega)), e, ih _ false (by simp; omega), if_neg (by decide), List.take_succ_cons, List.drop_succ_cons]
        simp only [List.append_assoc, List.singleton_append, List.cons_append, List.nil_append]
    obtain rfl : i = m.length := by omega
    unfold ferryref03_poke.l0
    rw [if_neg (by omega), List.drop_eq_nil_of_le (by omega)]
    cases done
    · rw [if_neg (by decide), if_pos (by omega), if_neg (by decide)]
      rfl
    · rw [if_pos rfl, if_pos rfl]
      simp
theorem ref_poke (l : List SM) {m : List SC} (h : CellsH m) (hm : m.length ≤ 1000000) {a b : Nat} (ha : a < 18446744073709551616) (hb : b < 256) (k : Nat) (hk : 2 * m.length < k) : ferryref03_poke.f k l m (a : Int) (b : Int) = some (l, pokeN m a b) := by
  unfold ferryref03_poke.f
  have ho : a % 8 < 8 := Nat.mod_lt _ (by decide)
  have hp : (256 : Nat) ^ (a % 8) * 256 ≤ 256 ^ 8 := by rw [← Nat.pow_succ]; exact Nat.pow_le_pow_right (by decide) (by omega)
  have e1 : shl .u64 255 ((8 * (a % 8) : Nat) : Int) = (((256 ^ 1 - 1) * 256 ^ (a % 8) : Nat) : Int) := by
    rw [show (255 : Int) = ((255 : Nat) : Int) from rfl, shl_bytes _ _ (by omega), Nat.mod_eq_of_lt (by have := pos256 (a % 8); omega)]
  have e2 : shl .u64 (IntKind.u64.wrap (b : Int)) ((8 * (a % 8) : Nat) : Int) = ((b * 256 ^ (a % 8) : Nat) : Int) := by
    have : b * 256 ^ (a % 8) < 256 * 256 ^ (a % 8) := Nat.mul_lt_mul_of_pos_right hb (pos256 _)
    rw [u64_keep _ (by omega) (by omega), shl_bytes _ _ (by omega), Nat.mod_eq_of_lt (by omega)]
  rw [low_u64 ha, off_u64, ref_word _ l m hm k (by omega), Option.bind_some, if_pos (by omega), h.wN_eq, e1, e2, put64 (h.wN_lt _) (by omega) (by omega)]
  have hl0 := ref_poke_l0 l h.mr hm ((a - a % 8 : Nat) : Int) ((putIn (wN m (a - a % 8)) (a % 8) 1 b : Nat) : Int) k 0 [] (((putIn (wN m (a - a % 8)) (a % 8) 1 b : Nat) : Int) == 0) (Nat.zero_le _) (by omega) (by simp)
  rw [show ((0 : Nat) : Int) = 0 from rfl] at hl0
  rw [hl0, List.nil_append, List.drop_zero]
  unfold pokeN
  rw [setL_setF h.mr]
  unfold setF
  by_cases hu : ((putIn (wN m (a - a % 8)) (a % 8) 1 b : Nat) : Int) = 0
  · rw [if_pos (by simpa using hu), if_pos hu]
  rw [if_neg (by simpa using hu), if_neg hu]
def pokes : List SC → Nat → Nat → Nat → List SC
  | m, _, _, 0 => m
  | m, a, v, n + 1 => pokes (pokeN m a (v % 256)) (a + 1) (v / 256) n
theorem CellsH.pokes : ∀ {n : Nat} {m : List SC} (h : CellsH m) {a v : Nat}, a + n ≤ 18446744073709551616 → CellsH (pokes m a v n)
  | 0, _, h, _, _, _ => h
  | n + 1, m, h, a, v, ha => CellsH.pokes (h.poke (by omega)) (by omega)
theorem byteAt_succ (v k : Nat) : byteAt v (k + 1) = byteAt (v / 256) k := by
  have h := byteAt_div v 1 k
  rw [Nat.pow_one] at h
  rw [h, Nat.add_comm]
theorem pk_pokes : ∀ {n : Nat} {m : List SC} (h : CellsH m) {a v : Nat}, a + n ≤ 18446744073709551616 → ∀ x, pk (pokes m a v n) x = if a ≤ x ∧ x < a + n then byteAt v (x - a) else pk m x
  | 0, m, h, a, v, _, x => by rw [if_neg (by omega)]; rfl
  | n + 1, m, h, a, v, ha, x => by
    unfold pokes
    rw [pk_pokes (h.poke (by omega)) (by omega) x, pk_poke h]
    by_cases h1 : a + 1 ≤ x ∧ x < a + 1 + n
    · rw [if_pos h1, if_pos (by omega), show x - a = x - (a + 1) + 1 by omega, byteAt_succ]
    rw [if_neg h1]
    by_cases h2 : x = a
    · rw [if_pos h2, if_pos (by omega), h2, Nat.sub_self]
      unfold byteAt
      simp
    rw [if_neg h2, if_neg (by omega)]
theorem pokeN_length (m : List SC) (a b : Nat) : (pokeN m a b).length ≤ m.length + 1 := setL_length _ _ _
theorem ref_Store_l0 (l : List SM) : ∀ (r k i : Nat) {m : List SC} (h : CellsH m) {a v n : Nat}, m.length + r ≤ 1000000 → i + r = n → n ≤ 8 → a + n ≤ 18446744073709551616 → v < 18446744073709551616 → 2 * (m.length + r) + r < k →
    ferryref03_Store.l0 k (a : Int) (n : Int) (v : Int) (i : Int) l m = some (l, pokes m (a + i) v r, 0, 0)
  | 0, k, i, m, h, a, v, n, hm, hi, hn, ha, hv, hk => by
    obtain ⟨k, rfl⟩ : ∃ q, k = q + 1 := ⟨k - 1, by omega⟩
    unfold ferryref03_Store.l0
    rw [if_neg (by omega)]
    rfl
  | r + 1, k, i, m, h, a, v, n, hm, hi, hn, ha, hv, hk => by
    obtain ⟨k, rfl⟩ : ∃ q, k = q + 1 := ⟨k - 1, by omega⟩
    unfold ferryref03_Store.l0
    have hw : wrap64 ((i : Int) + 1) = ((i + 1 : Nat) : Int) := by unfold wrap64; omega
    have e1 : IntKind.u64.wrap ((a : Int) + IntKind.u64.wrap (i : Int)) = ((a + i : Nat) : Int) := by rw [u64w, u64w]; omega
    have e2 : IntKind.u64.wrap (Int.tdiv (v : Int) 256) = ((v / 256 : Nat) : Int) := by rw [quo_u64 (by omega) (by omega) (by omega)]; simp
    have hlen := pokeN_length m (a + i) (v % 256)
    rw [if_pos (by omega), e1, e2, hw, show (v : Int) % 256 = ((v % 256 : Nat) : Int) by simp, ref_poke l h (by omega) (by omega) (Nat.mod_lt _ (by decide)) k (by omega), Option.bind_some]
    rw [ref_Store_l0 l r k (i + 1) (h.poke (b := v % 256) (show a + i < _ by omega)) (by omega) (by omega) hn ha (by have := Nat.div_le_self v 256; omega) (by omega)]
    rfl
theorem askS_ok {l : List SM} {a need : Int} (a0 : 0 ≤ a) (a1 : a < 18446744073709551616) : ∀ {r : Nat} {i : Int}, 0 ≤ i → i + (r : Int) ≤ 8 → (askS l a need r i).1 = 0 → askS l a need r i = (0, 0) ∧ ∀ j : Int, i ≤ j → j < i + r → a + j < 18446744073709551616 ∧ faultS l (a + j) need = 0
  | 0, i, _, _, _ => ⟨rfl, fun j h1 h2 => by omega⟩
  | r + 1, i, i0, hb, h => by
    unfold askS at h ⊢
    by_cases h1 : (a + i) % 18446744073709551616 < a
    · rw [if_pos h1] at h
      cases h
    rw [if_neg h1] at h ⊢
    have e : (a + i) % 18446744073709551616 = a + i := by omega
    rw [e] at h ⊢
    by_cases h2 : faultS l (a + i) need = 0
    · rw [if_pos h2] at h ⊢
      obtain ⟨h3, h4⟩ := askS_ok a0 a1 (by omega) (by omega) h
      refine ⟨h3, fun j j1 j2 => ?_⟩
      by_cases hj : j = i
      · subst hj
        exact ⟨by omega, h2⟩
      exact h4 j (by omega) (by omega)
    rw [if_neg h2] at h
    exact absurd h h2
def storeS (l : List SM) (m : List SC) (a n v : Int) : List SM × List SC × Int × Int :=
  if n < 1 ∨ n > 8 then (l, m, 0, 0) else if (askS l a 2 n.toNat 0).1 = 0 then (l, pokes m a.toNat v.toNat n.toNat, 0, 0) else (l, m, (askS l a 2 n.toNat 0).1, (askS l a 2 n.toNat 0).2)
theorem ref_Store (l : List SM) {m : List SC} (h : CellsH m) (hl : l.length ≤ 1000000) (hm : m.length ≤ 999000) {a n v : Int} (a0 : 0 ≤ a) (a1 : a < 18446744073709551616) (v0 : 0 ≤ v) (v1 : v < 18446744073709551616) (k : Nat) (hk : 2 * m.length + l.length + 40 < k) :
    ferryref03_Store.f k l m a n v = some (storeS l m a n v) := by
  obtain ⟨k, rfl⟩ : ∃ q, k = q + 1 := ⟨k - 1, by omega⟩
  have hj : ∀ b, ferryref03_Store.j0 (k + 1) a n v b l m = if b = true then some (l, m, 0, 0) else (ferryref03_ask.f k l m a n 2).bind fun bt => if bt.1 = 0 then ferryref03_Store.l0 k a n v 0 l m else some (l, m, bt.1, bt.2) := fun _ => rfl
  unfold ferryref03_Store.f storeS
  rw [hj, hj]
  by_cases h1 : n < 1
  · rw [if_pos h1, if_pos rfl, if_pos (Or.inl h1)]
  rw [if_neg h1]
  by_cases h2 : n > 8
  · rw [decide_eq_true h2, if_pos rfl, if_pos (Or.inr h2)]
  obtain ⟨N, rfl⟩ : ∃ N : Nat, n = (N : Int) := ⟨n.toNat, by omega⟩
  obtain ⟨A, rfl⟩ : ∃ N : Nat, a = (N : Int) := ⟨a.toNat, by omega⟩
  obtain ⟨V, rfl⟩ : ∃ N : Nat, v = (N : Int) := ⟨v.toNat, by omega⟩
  rw [decide_eq_false h2, if_neg (show ¬ (false = true) by decide), if_neg (by omega), ref_ask l m hl 2 N (by omega) a0 a1 k (by omega), Option.bind_some, Int.toNat_natCast, Int.toNat_natCast, Int.toNat_natCast]
  by_cases h3 : (askS l (A : Int) 2 N 0).1 = 0
  · rw [if_pos h3, if_pos h3]
    obtain ⟨_, h4⟩ := askS_ok a0 a1 (Int.le_refl 0) (by omega) h3
    have h5 := (h4 ((N : Int) - 1) (by omega) (by omega)).1
    have := ref_Store_l0 l N k 0 h (a := A) (v := V) (n := N) (by omega) (by omega) (by omega) (by omega) (by omega) (by omega)
    rw [show ((0 : Nat) : Int) = 0 from rfl] at this
    rw [this]
    rfl
  rw [if_neg h3, if_neg h3]
end Go.Proofs.Ytgkjdpdmmlalcaa.F
end
