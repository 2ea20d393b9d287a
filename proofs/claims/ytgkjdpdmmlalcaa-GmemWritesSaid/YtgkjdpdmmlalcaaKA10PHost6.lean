import Derived.Test.YtgkjdpdmmlalcaaKZF0
import Derived.Test.YtgkjdpdmmlalcaaKA0
import Derived.Test.YtgkjdpdmmlalcaaKA2HHost0
import Derived.Test.YtgkjdpdmmlalcaaKA5
import Derived.Test.YtgkjdpdmmlalcaaKA8HHost6
section
namespace Go.Proofs.Ytgkjdpdmmlalcaa.F
open Go.RowKit Go.Shelf Go.Proofs.YtgkjdpdmmlalcaaW.PrintWords Go.Proofs.YtgkjdpdmmlalcaaW.PrintLast Go.Proofs.YtgkjdpdmmlalcaaW.PrintMore
set_option linter.unusedVariables false
set_option linter.unusedSimpArgs false
theorem p256 (o : Nat) : (2 : Nat) ^ (8 * o) = 256 ^ o := by rw [Nat.pow_mul]
theorem p256_8 : (256 : Nat) ^ 8 = 18446744073709551616 := by decide
theorem p256_le {o : Nat} (h : o ≤ 8) : 256 ^ o ≤ (18446744073709551616 : Nat) := by
  rw [← p256_8]
  exact Nat.pow_le_pow_right (by decide) h
theorem put_or (w M V : Nat) (hw : w < 2 ^ 64) (hM : M < 2 ^ 64) (hV : V < 2 ^ 64) (h : V &&& M = V) : Go.bits .or .u64 (Go.bits .andNot .u64 (w : Int) (M : Int)) (V : Int) = (w : Int) - ((w &&& M : Nat) : Int) + (V : Int) := by
  have h1 := bv_andNot (BitVec.ofNat 64 w) (BitVec.ofNat 64 M)
  have e1 : (BitVec.ofNat 64 w &&& BitVec.ofNat 64 M).toNat = w &&& M := by
    rw [BitVec.toNat_and, BitVec.toNat_ofNat, BitVec.toNat_ofNat, Nat.mod_eq_of_lt hw, Nat.mod_eq_of_lt hM]
  rw [e1, BitVec.toNat_ofNat, Nat.mod_eq_of_lt hw] at h1
  have hVM : BitVec.ofNat 64 V &&& BitVec.ofNat 64 M = BitVec.ofNat 64 V := by
    apply BitVec.eq_of_toNat_eq
    rw [BitVec.toNat_and, BitVec.toNat_ofNat, BitVec.toNat_ofNat, Nat.mod_eq_of_lt hV, Nat.mod_eq_of_lt hM, h]
  have hz : (BitVec.ofNat 64 w &&& ~~~BitVec.ofNat 64 M) &&& BitVec.ofNat 64 V = 0#64 := by
    rw [← hVM]
    ext i hi
    simp only [BitVec.getElem_and, BitVec.getElem_not, BitVec.getElem_zero]
    cases (BitVec.ofNat 64 w)[i] <;> cases (BitVec.ofNat 64 M)[i] <;> cases (BitVec.ofNat 64 V)[i] <;> rfl
  have h2 : ((BitVec.ofNat 64 w &&& ~~~BitVec.ofNat 64 M) ||| BitVec.ofNat 64 V).toNat = (BitVec.ofNat 64 w &&& ~~~BitVec.ofNat 64 M).toNat + V := by
    rw [← BitVec.add_eq_or_of_and_eq_zero _ _ hz, BitVec.toNat_add_of_and_eq_zero hz, BitVec.toNat_ofNat, Nat.mod_eq_of_lt hV]
  have hA : Go.bits .andNot .u64 (w : Int) (M : Int) = (((BitVec.ofNat 64 w &&& ~~~BitVec.ofNat 64 M).toNat : Nat) : Int) := by
    show IntKind.u64.wrap (((BitVec.ofInt 64 (w : Int) &&& ~~~BitVec.ofInt 64 (M : Int)).toNat : Nat) : Int) = _
    rw [BitVec.ofInt_natCast, BitVec.ofInt_natCast, u64_keep _ (by omega) (by omega)]
  rw [hA]
  show IntKind.u64.wrap (((BitVec.ofInt 64 (((BitVec.ofNat 64 w &&& ~~~BitVec.ofNat 64 M).toNat : Nat) : Int) ||| BitVec.ofInt 64 (V : Int)).toNat : Nat) : Int) = _
  rw [BitVec.ofInt_natCast, BitVec.ofInt_natCast, BitVec.ofNat_toNat, BitVec.setWidth_eq, h2, u64_keep _ (by omega) (by
    have := (BitVec.ofNat 64 w &&& ~~~BitVec.ofNat 64 M ||| BitVec.ofNat 64 V).isLt
    omega)]
  omega
theorem put64 {w v o m : Nat} (hw : w < 256 ^ 8) (hv : v < 256 ^ m) (ho : o + m ≤ 8) : Go.bits .or .u64 (Go.bits .andNot .u64 (w : Int) (((256 ^ m - 1) * 256 ^ o : Nat) : Int)) ((v * 256 ^ o : Nat) : Int) = ((putIn w o m v : Nat) : Int) := by
  have hp : 256 ^ m * 256 ^ o ≤ (18446744073709551616 : Nat) := by rw [← Nat.pow_add]; exact p256_le (by omega)
  have hpm := pos256 m
  have hpo := pos256 o
  have hM : (256 ^ m - 1) * 256 ^ o < 2 ^ 64 := by
    have : (256 ^ m - 1) * 256 ^ o < 256 ^ m * 256 ^ o := Nat.mul_lt_mul_of_pos_right (by omega) hpo
    omega
  have hV : v * 256 ^ o < 2 ^ 64 := by
    have : v * 256 ^ o < 256 ^ m * 256 ^ o := Nat.mul_lt_mul_of_pos_right hv hpo
    omega
  have hw2 : w < 2 ^ 64 := by rw [p256_8] at hw; exact hw
  have hVM : (v * 256 ^ o) &&& ((256 ^ m - 1) * 256 ^ o) = v * 256 ^ o := by
    rw [← p256 m, ← p256 o, nat_mask_at, Nat.mul_div_cancel _ (Nat.two_pow_pos _), Nat.mod_eq_of_lt (by rw [p256]; exact hv)]
  rw [put_or w _ _ hw2 hM hV hVM]
  have e : w &&& ((256 ^ m - 1) * 256 ^ o) = w / 256 ^ o % 256 ^ m * 256 ^ o := by
    rw [← p256 m, ← p256 o, nat_mask_at]
  have hle : w &&& ((256 ^ m - 1) * 256 ^ o) ≤ w := Nat.and_le_left
  rw [putIn_eq, ← e, Nat.mod_eq_of_lt hv]
  omega
theorem clr64 {w o m : Nat} (hw : w < 256 ^ 8) (ho : o + m ≤ 8) : Go.bits .andNot .u64 (w : Int) (((256 ^ m - 1) * 256 ^ o : Nat) : Int) = ((putIn w o m 0 : Nat) : Int) := by
  have hp : 256 ^ m * 256 ^ o ≤ (18446744073709551616 : Nat) := by rw [← Nat.pow_add]; exact p256_le (by omega)
  have hpm := pos256 m
  have hpo := pos256 o
  have hM : (256 ^ m - 1) * 256 ^ o < 2 ^ 64 := by
    have : (256 ^ m - 1) * 256 ^ o < 256 ^ m * 256 ^ o := Nat.mul_lt_mul_of_pos_right (by omega) hpo
    omega
  have hw2 : w < 2 ^ 64 := by rw [p256_8] at hw; exact hw
  rw [andNot64 w _ hw2 hM]
  have e : w &&& ((256 ^ m - 1) * 256 ^ o) = w / 256 ^ o % 256 ^ m * 256 ^ o := by
    rw [← p256 m, ← p256 o, nat_mask_at]
  have hle : w &&& ((256 ^ m - 1) * 256 ^ o) ≤ w := Nat.and_le_left
  rw [putIn_eq, ← e, Nat.zero_mod, Nat.zero_mul]
  omega
structure CellsH (m : List SC) : Prop where
  mr : Rises clK m
  mp : ∀ x ∈ m, 0 ≤ x.f0 ∧ x.f0 < 18446744073709551616 ∧ x.f0 % 8 = 0 ∧ 0 < x.f1 ∧ x.f1 < 18446744073709551616
theorem FitH.cells {l : List SM} {m : List SC} (h : FitH l m) : CellsH m := ⟨h.mr, fun x hx => by
  have := h.mp x hx
  exact ⟨this.1, this.2.1, this.2.2.1, this.2.2.2.1, this.2.2.2.2.1⟩⟩
theorem look_bd {m : List SC} {b : Int} (hb : 0 < b) (h : ∀ x ∈ m, 0 ≤ x.f1 ∧ x.f1 < b) (a : Int) : 0 ≤ wrd m a ∧ wrd m a < b := by
  unfold wrd
  induction m with
  | nil => exact ⟨Int.le_refl _, hb⟩
  | cons x m ih =>
    unfold look
    split
    · exact h x List.mem_cons_self
    · exact ih (fun y hy => h y (List.mem_cons_of_mem _ hy))
theorem CellsH.bd {m : List SC} (h : CellsH m) (a : Int) : 0 ≤ wrd m a ∧ wrd m a < 18446744073709551616 := look_bd (by omega) (fun x hx => by have := h.mp x hx; omega) a
theorem CellsH.off {m : List SC} (h : CellsH m) {a : Int} (ha : a % 8 ≠ 0) : wrd m a = 0 := look_none clK clV (fun x hx e => ha (by rw [← e]; exact (h.mp x hx).2.2.1))
def wN (m : List SC) (a : Nat) : Nat := (wrd m (a : Int)).toNat
theorem CellsH.wN_lt {m : List SC} (h : CellsH m) (a : Nat) : wN m a < 256 ^ 8 := by
  have := h.bd (a : Int)
  unfold wN
  rw [p256_8]
  omega
theorem CellsH.wN_eq {m : List SC} (h : CellsH m) (a : Nat) : wrd m (a : Int) = ((wN m a : Nat) : Int) := by
  have := h.bd (a : Int)
  unfold wN
  omega
theorem cells_ext {m m' : List SC} (h : CellsH m) (h' : CellsH m') (e : ∀ a : Nat, a % 8 = 0 → wN m a = wN m' a) : m = m' := by
  refine look_ext clK clV (fun x y h1 h2 => ?_) h.mr h'.mr (fun x hx => ?_) (fun x hx => ?_) (fun a => ?_)
  · obtain ⟨x0, x1⟩ := x
    obtain ⟨y0, y1⟩ := y
    obtain rfl : x0 = y0 := h1
    obtain rfl : x1 = y1 := h2
    rfl
  · have := h.mp x hx
    show x.f1 ≠ 0
    omega
  · have := h'.mp x hx
    show x.f1 ≠ 0
    omega
  · show wrd m a = wrd m' a
    by_cases h0 : 0 ≤ a
    · by_cases h8 : a % 8 = 0
      · obtain ⟨n, rfl⟩ : ∃ n : Nat, a = (n : Int) := ⟨a.toNat, by omega⟩
        rw [h.wN_eq, h'.wN_eq, e n (by omega)]
      · rw [h.off h8, h'.off h8]
    have hn : ∀ {q : List SC}, CellsH q → wrd q a = 0 := fun hq => look_none clK clV (fun x hx e => by
      have := hq.mp x hx
      have h3 : clK x = x.f0 := rfl
      omega)
    rw [hn h, hn h']
theorem look_app {α : Type} {key val : α → Int} (a : Int) : ∀ (l m : List α), look key val a (l ++ m) = if has key a l = true then look key val a l else look key val a m
  | [], m => rfl
  | x :: l, m => by
    have hc : ∀ q : List α, look key val a (x :: q) = if key x = a then val x else look key val a q := fun _ => rfl
    rw [List.cons_append, hc, hc]
    by_cases h : key x = a
    · rw [if_pos h, if_pos h, if_pos (by unfold has; rw [List.any_cons, decide_eq_true h, Bool.true_or])]
    rw [if_neg h, if_neg h, look_app a l m]
    unfold has
    rw [List.any_cons, decide_eq_false h, Bool.false_or]
theorem look_filter {α : Type} {key val : α → Int} (p : α → Bool) (a : Int) (hp : ∀ x, key x = a → p x = true) : ∀ (l : List α), look key val a (l.filter p) = look key val a l
  | [] => rfl
  | x :: l => by
    rw [List.filter_cons]
    by_cases h : p x = true
    · rw [if_pos h]
      unfold look
      rw [look_filter p a hp l]
    rw [if_neg h]
    conv => rhs; unfold look
    rw [if_neg (fun e => h (hp x e)), look_filter p a hp l]
theorem has_mem {α : Type} {key : α → Int} {k : Int} {l : List α} : has key k l = true ↔ ∃ x ∈ l, key x = k := by
  unfold has
  rw [List.any_eq_true]
  constructor
  · rintro ⟨x, hx, h⟩
    exact ⟨x, hx, of_decide_eq_true h⟩
  · rintro ⟨x, hx, h⟩
    exact ⟨x, hx, decide_eq_true h⟩
theorem has_none {α : Type} {key : α → Int} {k : Int} {l : List α} (h : ∀ x ∈ l, key x ≠ k) : has key k l = false := by
  cases e : has key k l with
  | false => rfl
  | true =>
    obtain ⟨x, hx, hk⟩ := has_mem.1 e
    exact absurd hk (h x hx)
def setF (a u : Int) (m : List SC) : List SC :=
  if u = 0 then m.filter (fun x => !decide (x.f0 = a)) else m.take (lowB clK a m) ++ [⟨a, u⟩] ++ (m.drop (lowB clK a m)).filter (fun x => !decide (x.f0 = a))
theorem drop_ne {m : List SC} {a : Int} (hr : Rises clK m) : (m.drop (lowB clK a m)).filter (fun x => !decide (x.f0 = a)) = if has clK a m = true then m.drop (lowB clK a m + 1) else m.drop (lowB clK a m) := by
  split
  · rename_i h
    obtain ⟨hj, h1, _⟩ := low_hit (val := clV) hr h
    rw [List.drop_eq_getElem_cons hj, List.filter_cons, if_neg (by simp; exact h1), List.filter_eq_self]
    intro x hx
    have h2 : Rises clK (m.drop (lowB clK a m)) := rises_right clK (l := m.take (lowB clK a m)) (by rw [List.take_append_drop]; exact hr)
    rw [List.drop_eq_getElem_cons hj] at h2
    have h3 := rises_head clK h2 x hx
    have h4 : clK x = x.f0 := rfl
    simp
    omega
  · rename_i h
    rw [List.filter_eq_self]
    intro x hx
    have : x.f0 ≠ a := fun e => h (has_mem.2 ⟨x, List.mem_of_mem_drop hx, e⟩)
    simpa using this
theorem take_ne {m : List SC} {a : Int} : (m.take (lowB clK a m)).filter (fun x => !decide (x.f0 = a)) = m.take (lowB clK a m) := by
  rw [List.filter_eq_self]
  intro x hx
  have h1 := take_lowB clK a m x hx
  have h4 : clK x = x.f0 := rfl
  simp
  omega
theorem setL_setF {m : List SC} (hr : Rises clK m) (a u : Int) : setL a u m = setF a u m := by
  unfold setL setF
  by_cases hu : u = 0
  · rw [if_pos hu, if_pos hu, if_pos hu]
    conv => rhs; rw [← List.take_append_drop (lowB clK a m) m]
    rw [List.filter_append, take_ne, drop_ne hr]
    split
    · rw [List.eraseIdx_eq_take_drop_succ]
    · rw [List.take_append_drop]
  rw [if_neg hu, if_neg hu, if_neg hu, drop_ne hr]
  by_cases h : has clK a m = true
  · obtain ⟨hj, h1, _⟩ := low_hit (val := clV) hr h
    rw [if_pos h, if_pos h, List.set_eq_take_append_cons_drop, if_pos hj, List.append_assoc]
    rfl
  rw [if_neg h, if_neg h]
theorem wrd_setF {m : List SC} (hr : Rises clK m) (a u x : Int) : wrd (setF a u m) x = if x = a then u else wrd m x := by
  unfold setF wrd
  by_cases hx : x = a
  · subst hx
    rw [if_pos rfl]
    split
    · rename_i hu
      rw [look_none clK clV, hu]
      intro y hy
      have := (List.mem_filter.1 hy).2
      simpa using this
    · rw [List.append_assoc, look_app, has_none (fun y hy => by have := take_lowB clK x m y hy; omega), if_neg (by decide), List.singleton_append]
      unfold look
      rw [if_pos rfl]
  rw [if_neg hx]
  have hf : ∀ l : List SC, look clK clV x (l.filter (fun y => !decide (y.f0 = a))) = look clK clV x l := fun l => look_filter _ _ (fun y hy => by
    have h4 : clK y = y.f0 := rfl
    simp
    omega) l
  split
  · exact hf m
  · rw [List.append_assoc, look_app, List.singleton_append]
    conv => lhs; rhs; unfold look
    rw [if_neg (Ne.symm hx), hf]
    conv => rhs; rw [← List.take_append_drop (lowB clK a m) m]
    rw [look_app]
theorem wrd_setL {m : List SC} (hr : Rises clK m) (a u x : Int) : wrd (setL a u m) x = if x = a then u else wrd m x := by
  rw [setL_setF hr, wrd_setF hr]
theorem mem_setF {m : List SC} {a u : Int} {x : SC} (h : x ∈ setF a u m) : x ∈ m ∨ (x = ⟨a, u⟩ ∧ u ≠ 0) := by
  unfold setF at h
  split at h
  · exact Or.inl (List.mem_filter.1 h).1
  · rename_i hu
    rcases List.mem_append.1 h with h | h
    · rcases List.mem_append.1 h with h | h
      · exact Or.inl (List.mem_of_mem_take h)
      · exact Or.inr ⟨List.mem_singleton.1 h, hu⟩
    · exact Or.inl (List.mem_of_mem_drop (List.mem_filter.1 h).1)
theorem CellsH.set {m : List SC} (h : CellsH m) {a u : Int} (a0 : 0 ≤ a) (a1 : a < 18446744073709551616) (a8 : a % 8 = 0) (u0 : 0 ≤ u) (u1 : u < 18446744073709551616) : CellsH (setL a u m) := by
  refine ⟨setL_rises h.mr a u, fun x hx => ?_⟩
  rw [setL_setF h.mr] at hx
  rcases mem_setF hx with h1 | ⟨rfl, h2⟩
  · exact h.mp x h1
  · exact ⟨a0, a1, a8, by dsimp only; omega, u1⟩
end Go.Proofs.Ytgkjdpdmmlalcaa.F
end
