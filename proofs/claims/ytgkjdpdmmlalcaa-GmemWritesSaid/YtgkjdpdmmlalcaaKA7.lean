import Derived.Test.YtgkjdpdmmlalcaaKZF0
import Derived.Test.YtgkjdpdmmlalcaaKA0
import Derived.Test.YtgkjdpdmmlalcaaKA2HHost0
import Derived.Test.YtgkjdpdmmlalcaaKA3
import Derived.Test.YtgkjdpdmmlalcaaKA5
section
namespace Go.Proofs.Ytgkjdpdmmlalcaa.F
open Go.RowKit Go.Shelf Go.Proofs.YtgkjdpdmmlalcaaW.PrintWords Go.Proofs.YtgkjdpdmmlalcaaW.PrintLast Go.Proofs.YtgkjdpdmmlalcaaW.PrintMore
set_option linter.unusedVariables false
set_option linter.unusedSimpArgs false
def wrongS (a n p : Int) : Bool := decide (n = 0 ∨ a ≥ 1125899906842624 ∨ n > 1125899906842624 - a ∨ p < 0 ∨ p > 7)
theorem withB_eq {p a n : Int} (p0 : 0 ≤ p) (p1 : p ≤ 18446744073709551615) (a0 : 0 ≤ a) : withB p a n = decide (a ≤ p ∧ p - a < n) := by
  unfold withB host_within.f
  rw [u64w]
  by_cases h : p ≥ a
  · rw [if_pos h, Option.getD_some]
    exact decide_eq_decide.2 (by omega)
  rw [if_neg h, Option.getD_some, decide_eq_false (by omega)]
end Go.Proofs.Ytgkjdpdmmlalcaa.F
end
section
namespace Go.Proofs.Ytgkjdpdmmlalcaa.F
open Go.RowKit Go.Shelf Go.Proofs.YtgkjdpdmmlalcaaW.PrintWords Go.Proofs.YtgkjdpdmmlalcaaW.PrintLast Go.Proofs.YtgkjdpdmmlalcaaW.PrintMore
set_option linter.unusedVariables false
set_option linter.unusedSimpArgs false
theorem moreP_length (a p : Int) (n : Nat) : (moreP a n p).length = n := by
  unfold moreP
  rw [List.length_map, List.length_range]
theorem moreP_succ (a p : Int) (n : Nat) : moreP a (n + 1) p = moreP a n p ++ [⟨IntKind.u64.wrap (a + (n : Int)), p⟩] := by
  unfold moreP
  rw [List.range_succ, List.map_append]
  rfl
def mapS (l : List SM) (m : List SC) (a n p : Int) : List SM × List SC × Int :=
  if wrongS a n p = true then (l, m, 22) else if l.any (fun x => withB x.f0 a n) = true then (l, m, 17) else if n > 64 - (l.length : Int) then (l, m, 105) else (l.take (lowB mpK a l) ++ moreP a n.toNat p ++ l.drop (lowB mpK a l), m, 0)
theorem has_append {α : Type} {key : α → Int} (k : Int) (l m : List α) : has key k (l ++ m) = (has key k l || has key k m) := by
  unfold has
  rw [List.any_append]
theorem moreP_mem {a p : Int} {n : Nat} (a0 : 0 ≤ a) (h : a + (n : Int) ≤ 18446744073709551616) {x : SM} (hx : x ∈ moreP a n p) : ∃ i : Nat, i < n ∧ x.f0 = a + (i : Int) ∧ x.f1 = p := by
  unfold moreP at hx
  obtain ⟨i, hi, rfl⟩ := List.mem_map.1 hx
  have hi2 := List.mem_range.1 hi
  exact ⟨i, hi2, by show IntKind.u64.wrap _ = _; rw [u64w]; omega, rfl⟩
theorem moreP_rises {a p : Int} (a0 : 0 ≤ a) : ∀ {n : Nat}, a + (n : Int) ≤ 18446744073709551616 → Rises mpK (moreP a n p)
  | 0, _ => trivial
  | n + 1, h => by
    rw [moreP_succ]
    refine rises_append mpK (moreP_rises a0 (by omega)) trivial (fun x hx y hy => ?_)
    obtain ⟨i, hi, hx2, _⟩ := moreP_mem a0 (by omega) hx
    rw [List.mem_singleton] at hy
    subst hy
    show x.f0 < IntKind.u64.wrap _
    rw [u64w, hx2]
    omega
theorem mapS_keys {l : List SM} {a n : Int} (a0 : 0 ≤ a) (wl : ∀ x ∈ l, wfM x) (hany : l.any (fun x => withB x.f0 a n) = false) : ∀ x ∈ l, x.f0 < a ∨ a + n ≤ x.f0 := fun x hx => by
  have h1 := List.any_eq_false.1 hany x hx
  have hw2 : (0 ≤ x.f0 ∧ x.f0 ≤ 18446744073709551615) ∧ _ := wl _ hx
  rw [withB_eq hw2.1.1 hw2.1.2 a0] at h1
  simp at h1
  omega
theorem FitH.map {l : List SM} {m : List SC} (h : FitH l m) {a n p : Int} (a0 : 0 ≤ a) : FitH (mapS l m a n p).1 (mapS l m a n p).2.1 := by
  unfold mapS
  split
  · exact h
  rename_i hw
  split
  · exact h
  rename_i hany
  split
  · exact h
  rename_i hf
  have hw2 : ¬ (n = 0 ∨ a ≥ 1125899906842624 ∨ n > 1125899906842624 - a ∨ p < 0 ∨ p > 7) := by
    unfold wrongS at hw
    simpa only [decide_eq_true_eq] using hw
  have hk := mapS_keys a0 h.wl (Bool.eq_false_iff.2 hany)
  by_cases n0 : 0 < n
  rotate_left
  · have e0 : n.toNat = 0 := by omega
    dsimp only
    rw [e0, show moreP a 0 p = [] from rfl, List.append_nil, List.take_append_drop]
    exact h
  have hn : ((n.toNat : Nat) : Int) = n := by omega
  have hd : ∀ y ∈ l.drop (lowB mpK a l), a + n ≤ y.f0 := fun y hy => by
    have h1 := drop_lowB mpK a h.lr y hy
    have h2 := hk y (List.mem_of_mem_drop hy)
    have h3 : mpK y = y.f0 := rfl
    omega
  refine ⟨?_, ?_, fun x hx => ?_, h.mr, h.mn, fun x hx => ?_⟩
  · refine rises_append mpK (rises_append mpK (rises_left mpK (m := l.drop (lowB mpK a l)) (by rw [List.take_append_drop]; exact h.lr)) (moreP_rises a0 (by omega)) (fun x hx y hy => ?_)) (rises_right mpK (l := l.take (lowB mpK a l)) (by rw [List.take_append_drop]; exact h.lr)) (fun x hx y hy => ?_)
    · have h1 := take_lowB mpK a l x hx
      obtain ⟨i, hi, h2, _⟩ := moreP_mem a0 (by omega) hy
      have h3 : mpK y = y.f0 := rfl
      omega
    · have h1 := hd y hy
      have h3 : mpK y = y.f0 := rfl
      rcases List.mem_append.1 hx with hx | hx
      · have h2 := take_lowB mpK a l x hx
        omega
      · obtain ⟨i, hi, h2, _⟩ := moreP_mem a0 (by omega) hx
        have h4 : mpK x = x.f0 := rfl
        omega
  · have hL := lowB_le mpK a l
    simp only [List.length_append, moreP_length, List.length_take, List.length_drop]
    omega
  · rcases List.mem_append.1 hx with hx | hx
    · rcases List.mem_append.1 hx with hx | hx
      · exact h.lp x (List.mem_of_mem_take hx)
      · obtain ⟨i, hi, h2, h3⟩ := moreP_mem a0 (by omega) hx
        rw [h2, h3]
        omega
    · exact h.lp x (List.mem_of_mem_drop hx)
  · have h1 := h.mp x hx
    refine ⟨h1.1, h1.2.1, h1.2.2.1, h1.2.2.2.1, h1.2.2.2.2.1, ?_⟩
    have h2 := h1.2.2.2.2.2
    rw [← List.take_append_drop (lowB mpK a l) l, has_append] at h2
    rw [has_append, has_append]
    revert h2
    cases has mpK (x.f0 / 16384) (l.take (lowB mpK a l)) <;> cases has mpK (x.f0 / 16384) (l.drop (lowB mpK a l)) <;> simp
end Go.Proofs.Ytgkjdpdmmlalcaa.F
end
