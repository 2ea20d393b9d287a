import Derived.Test.YtgkjdpdmmlalcaaZF0
import Derived.Test.YtgkjdpdmmlalcaaYA0
import Derived.Test.YtgkjdpdmmlalcaaYA1HHost0
import Derived.Test.YtgkjdpdmmlalcaaYA2
import Derived.Test.YtgkjdpdmmlalcaaYA6
import Derived.Test.YtgkjdpdmmlalcaaYA8
import Derived.Test.YtgkjdpdmmlalcaaYA11HHost6
section
namespace Go.Proofs.Ytgkjdpdmmlalcaa.F
open Go.RowKit Go.Shelf Go.Proofs.YtgkjdpdmmlalcaaW.PrintWords Go.Proofs.YtgkjdpdmmlalcaaW.PrintLast Go.Proofs.YtgkjdpdmmlalcaaW.PrintMore
set_option linter.unusedVariables false
set_option linter.unusedSimpArgs false
theorem p256 (o : Nat) : (2 : Nat) ^ (8 * o) = 256 ^ o := by rw [Nat.pow_mul]
theorem p256_8 : (256 : Nat) ^ 8 = 18446744073709551616 := by decide
theorem p256_le {o : Nat} (h : o ≤ 8) : 256 ^ o ≤ (18446744073709551616 : Nat) := by
  rw [← p256_8]
  exact Nat.pow_le_pow_right (by decide) h
theorem clr64 {w o m : Nat} (hw : w < 256 ^ 8) (ho : o + m ≤ 8) : Go.bits .andNot .u64 (w : Int) (((256 ^ m - 1) * 256 ^ o : Nat) : Int) = ((putIn w o m 0 : Nat) : Int) := by
  have hp : 256 ^ m * 256 ^ o ≤ (18446744073709551616 : Nat) := by rw [← Nat.pow_add]; exact p256_le (by omega)
  have hpm := pos256 m
  have hpo := pos256 o
  have hM : (256 ^ m - 1) * 256 ^ o < 2 ^ 64 := by
    have : (256 ^ m - 1) * 256 ^ o < 256 ^ m * 256 ^ o := Nat.mul_lt_mul_of_pos_right (by omega) hpo
    omega
  have hw2 : w < 2 ^ 64 := by rw [p256_8] at hw; exact hw
  rw [andNot64 w _ hw2 hM]
  have e : w &&& ((256 ^ m - 1) * 256 ^ o) = w / 256 ^ o % 256 ^ m * 256 ^ o := by
    rw [← p256 m, ← p256 o, nat_mask_at]
  have hle : w &&& ((256 ^ m - 1) * 256 ^ o) ≤ w := Nat.and_le_left
  rw [putIn_eq, ← e, Nat.zero_mod, Nat.zero_mul]
  omega
structure CellsH (m : List SC) : Prop where
  mr : Rises clK m
  mp : ∀ x ∈ m, 0 ≤ x.f0 ∧ x.f0 < 18446744073709551616 ∧ x.f0 % 8 = 0 ∧ 0 < x.f1 ∧ x.f1 < 18446744073709551616
theorem FitH.cells {l : List SM} {m : List SC} (h : FitH l m) : CellsH m := ⟨h.mr, fun x hx => by
  have := h.mp x hx
  exact ⟨this.1, this.2.1, this.2.2.1, this.2.2.2.1, this.2.2.2.2.1⟩⟩
theorem look_bd {m : List SC} {b : Int} (hb : 0 < b) (h : ∀ x ∈ m, 0 ≤ x.f1 ∧ x.f1 < b) (a : Int) : 0 ≤ wrd m a ∧ wrd m a < b := by
  unfold wrd
  induction m with
  | nil => exact ⟨Int.le_refl _, hb⟩
  | cons x m ih =>
    unfold look
    split
    · exact h x List.mem_cons_self
    · exact ih (fun y hy => h y (List.mem_cons_of_mem _ hy))
theorem CellsH.bd {m : List SC} (h : CellsH m) (a : Int) : 0 ≤ wrd m a ∧ wrd m a < 18446744073709551616 := look_bd (by omega) (fun x hx => by have := h.mp x hx; omega) a
theorem CellsH.off {m : List SC} (h : CellsH m) {a : Int} (ha : a % 8 ≠ 0) : wrd m a = 0 := look_none clK clV (fun x hx e => ha (by rw [← e]; exact (h.mp x hx).2.2.1))
def wN (m : List SC) (a : Nat) : Nat := (wrd m (a : Int)).toNat
theorem CellsH.wN_lt {m : List SC} (h : CellsH m) (a : Nat) : wN m a < 256 ^ 8 := by
  have := h.bd (a : Int)
  unfold wN
  rw [p256_8]
  omega
theorem CellsH.wN_eq {m : List SC} (h : CellsH m) (a : Nat) : wrd m (a : Int) = ((wN m a : Nat) : Int) := by
  have := h.bd (a : Int)
  unfold wN
  omega
theorem has_mem {α : Type} {key : α → Int} {k : Int} {l : List α} : has key k l = true ↔ ∃ x ∈ l, key x = k := by
  unfold has
  rw [List.any_eq_true]
  constructor
  · rintro ⟨x, hx, h⟩
    exact ⟨x, hx, of_decide_eq_true h⟩
  · rintro ⟨x, hx, h⟩
    exact ⟨x, hx, decide_eq_true h⟩
def setF (a u : Int) (m : List SC) : List SC :=
  if u = 0 then m.filter (fun x => !decide (x.f0 = a)) else m.take (lowB clK a m) ++ [⟨a, u⟩] ++ (m.drop (lowB clK a m)).filter (fun x => !decide (x.f0 = a))
theorem drop_ne {m : List SC} {a : Int} (hr : Rises clK m) : (m.drop (lowB clK a m)).filter (fun x => !decide (x.f0 = a)) = if has clK a m = true then m.drop (lowB clK a m + 1) else m.drop (lowB clK a m) := by
  split
  · rename_i h
    obtain ⟨hj, h1, _⟩ := low_hit (val := clV) hr h
    rw [List.drop_eq_getElem_cons hj, List.filter_cons, if_neg (by simp; exact h1), List.filter_eq_self]
    intro x hx
    have h2 : Rises clK (m.drop (lowB clK a m)) := rises_right clK (l := m.take (lowB clK a m)) (by rw [List.take_append_drop]; exact hr)
    rw [List.drop_eq_getElem_cons hj] at h2
    have h3 := rises_head clK h2 x hx
    have h4 : clK x = x.f0 := rfl
    simp
    omega
  · rename_i h
    rw [List.filter_eq_self]
    intro x hx
    have : x.f0 ≠ a := fun e => h (has_mem.2 ⟨x, List.mem_of_mem_drop hx, e⟩)
    simpa using this
theorem take_ne {m : List SC} {a : Int} : (m.take (lowB clK a m)).filter (fun x => !decide (x.f0 = a)) = m.take (lowB clK a m) := by
  rw [List.filter_eq_self]
  intro x hx
  have h1 := take_lowB clK a m x hx
  have h4 : clK x = x.f0 := rfl
  simp
  omega
theorem setL_setF {m : List SC} (hr : Rises clK m) (a u : Int) : setL a u m = setF a u m := by
  unfold setL setF
  by_cases hu : u = 0
  · rw [if_pos hu, if_pos hu, if_pos hu]
    conv => rhs; rw [← List.take_append_drop (lowB clK a m) m]
    rw [List.filter_append, take_ne, drop_ne hr]
    split
    · rw [List.eraseIdx_eq_take_drop_succ]
    · rw [List.take_append_drop]
  rw [if_neg hu, if_neg hu, if_neg hu, drop_ne hr]
  by_cases h : has clK a m = true
  · obtain ⟨hj, h1, _⟩ := low_hit (val := clV) hr h
    rw [if_pos h, if_pos h, List.set_eq_take_append_cons_drop, if_pos hj, List.append_assoc]
    rfl
  rw [if_neg h, if_neg h]
theorem mem_setF {m : List SC} {a u : Int} {x : SC} (h : x ∈ setF a u m) : x ∈ m ∨ (x = ⟨a, u⟩ ∧ u ≠ 0) := by
  unfold setF at h
  split at h
  · exact Or.inl (List.mem_filter.1 h).1
  · rename_i hu
    rcases List.mem_append.1 h with h | h
    · rcases List.mem_append.1 h with h | h
      · exact Or.inl (List.mem_of_mem_take h)
      · exact Or.inr ⟨List.mem_singleton.1 h, hu⟩
    · exact Or.inl (List.mem_of_mem_drop (List.mem_filter.1 h).1)
theorem CellsH.set {m : List SC} (h : CellsH m) {a u : Int} (a0 : 0 ≤ a) (a1 : a < 18446744073709551616) (a8 : a % 8 = 0) (u0 : 0 ≤ u) (u1 : u < 18446744073709551616) : CellsH (setL a u m) := by
  refine ⟨setL_rises h.mr a u, fun x hx => ?_⟩
  rw [setL_setF h.mr] at hx
  rcases mem_setF hx with h1 | ⟨rfl, h2⟩
  · exact h.mp x h1
  · exact ⟨a0, a1, a8, by dsimp only; omega, u1⟩
end Go.Proofs.Ytgkjdpdmmlalcaa.F
end
section
namespace Go.Proofs.Ytgkjdpdmmlalcaa.F
open Go.RowKit Go.Shelf Go.Proofs.YtgkjdpdmmlalcaaW.PrintWords Go.Proofs.YtgkjdpdmmlalcaaW.PrintLast Go.Proofs.YtgkjdpdmmlalcaaW.PrintMore
set_option linter.unusedVariables false
set_option linter.unusedSimpArgs false
def pk (m : List SC) (a : Nat) : Nat := byteAt (wN m (a - a % 8)) (a % 8)
theorem pk_lt (m : List SC) (a : Nat) : pk m a < 256 := byteAt_lt _ _
theorem pk_at (m : List SC) {a k : Nat} (ha : a % 8 = 0) (hk : k < 8) : pk m (a + k) = byteAt (wN m a) k := by
  unfold pk
  rw [show (a + k) % 8 = k by omega, show a + k - k = a by omega]
theorem shr_bytes (w o : Nat) (ho : o ≤ 8) : shr .u64 (w : Int) ((8 * o : Nat) : Int) = ((w / 256 ^ o : Nat) : Int) := by
  unfold shr
  rw [Int.toNat_natCast, Nat.min_eq_left (show 8 * o ≤ IntKind.u64.bits by show 8 * o ≤ 64; omega), ← p256]
  simp
theorem shl_bytes (w o : Nat) (ho : o ≤ 8) : shl .u64 (w : Int) ((8 * o : Nat) : Int) = ((w * 256 ^ o % 256 ^ 8 : Nat) : Int) := by
  unfold shl
  rw [Int.toNat_natCast, Nat.min_eq_left (show 8 * o ≤ IntKind.u64.bits by show 8 * o ≤ 64; omega), u64w, p256_8, ← p256]
  simp
def pokeN (m : List SC) (a b : Nat) : List SC := setL ((a - a % 8 : Nat) : Int) ((putIn (wN m (a - a % 8)) (a % 8) 1 b : Nat) : Int) m
theorem CellsH.putW {m : List SC} (h : CellsH m) {a o n v : Nat} (ha : a < 18446744073709551616) (h8 : a % 8 = 0) (ho : o + n ≤ 8) : CellsH (setL (a : Int) ((putIn (wN m a) o n v : Nat) : Int) m) := by
  have := putIn_lt (v := v) (h.wN_lt a) ho
  rw [p256_8] at this
  exact h.set (by omega) (by omega) (by omega) (by omega) (by omega)
theorem CellsH.poke {m : List SC} (h : CellsH m) {a b : Nat} (ha : a < 18446744073709551616) : CellsH (pokeN m a b) := h.putW (by omega) (by omega) (by omega)
def pokes : List SC → Nat → Nat → Nat → List SC
  | m, _, _, 0 => m
  | m, a, v, n + 1 => pokes (pokeN m a (v % 256)) (a + 1) (v / 256) n
theorem CellsH.pokes : ∀ {n : Nat} {m : List SC} (h : CellsH m) {a v : Nat}, a + n ≤ 18446744073709551616 → CellsH (pokes m a v n)
  | 0, _, h, _, _, _ => h
  | n + 1, m, h, a, v, ha => CellsH.pokes (h.poke (by omega)) (by omega)
theorem pokeN_length (m : List SC) (a b : Nat) : (pokeN m a b).length ≤ m.length + 1 := setL_length _ _ _
theorem askS_ok {l : List SM} {a need : Int} (a0 : 0 ≤ a) (a1 : a < 18446744073709551616) : ∀ {r : Nat} {i : Int}, 0 ≤ i → i + (r : Int) ≤ 8 → (askS l a need r i).1 = 0 → askS l a need r i = (0, 0) ∧ ∀ j : Int, i ≤ j → j < i + r → a + j < 18446744073709551616 ∧ faultS l (a + j) need = 0
  | 0, i, _, _, _ => ⟨rfl, fun j h1 h2 => by omega⟩
  | r + 1, i, i0, hb, h => by
    unfold askS at h ⊢
    by_cases h1 : (a + i) % 18446744073709551616 < a
    · rw [if_pos h1] at h
      cases h
    rw [if_neg h1] at h ⊢
    have e : (a + i) % 18446744073709551616 = a + i := by omega
    rw [e] at h ⊢
    by_cases h2 : faultS l (a + i) need = 0
    · rw [if_pos h2] at h ⊢
      obtain ⟨h3, h4⟩ := askS_ok a0 a1 (by omega) (by omega) h
      refine ⟨h3, fun j j1 j2 => ?_⟩
      by_cases hj : j = i
      · subst hj
        exact ⟨by omega, h2⟩
      exact h4 j (by omega) (by omega)
    rw [if_neg h2] at h
    exact absurd h h2
def storeS (l : List SM) (m : List SC) (a n v : Int) : List SM × List SC × Int × Int :=
  if n < 1 ∨ n > 8 then (l, m, 0, 0) else if (askS l a 2 n.toNat 0).1 = 0 then (l, pokes m a.toNat v.toNat n.toNat, 0, 0) else (l, m, (askS l a 2 n.toNat 0).1, (askS l a 2 n.toNat 0).2)
end Go.Proofs.Ytgkjdpdmmlalcaa.F
end
