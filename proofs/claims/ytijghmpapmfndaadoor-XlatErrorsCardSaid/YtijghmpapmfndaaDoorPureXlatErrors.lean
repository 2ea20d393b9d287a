/- The pure statement of the law XlatErrors, proved. No condition. -/
import Derived.Test.YtijghmpapmfndaaDoorQXlatErrors
namespace Go.Proofs.YtijghmpapmfndaaDoor.F
open Go.RowKit Go.Proofs.YtijghmpapmfndaaDoorW.PrintWords Go.Proofs.YtijghmpapmfndaaDoorW.PrintLast Go.Proofs.YtijghmpapmfndaaDoorW.PrintMore
set_option linter.unusedVariables false
set_option linter.unusedSimpArgs false
theorem found_all {α : Type} (p : α → Bool) (z : α) (q : α → Bool) : ∀ (l : List α), l.all q = true → (foundOf p z l).2 = true → q (foundOf p z l).1 = true
  | [], _, h => by cases h
  | x :: l, ha, h => by
    simp only [List.all_cons, Bool.and_eq_true] at ha
    unfold foundOf at h ⊢
    by_cases hp : p x = true
    · rw [if_pos hp]
      exact ha.1
    · rw [if_neg hp] at h ⊢
      exact found_all p z q l ha.2 h
theorem errors_awake : ∃ k, ferrylaw24_awake.f k = some true := ⟨40, by decide +kernel⟩
theorem XlatErrors_pure : ferrylaw24_XlatErrors.Pure := by
  intro e n he hn
  obtain ⟨k, hk⟩ := errors_awake
  refine ⟨k, ?_⟩
  have h1 : ∃ v, xlat_Err.f e = some v ∧ v > 0 ∧ v < 100 := by
    refine ⟨_, rfl, ?_⟩
    by_cases hb : (foundOf (err_p e) z36 errList).2 = true
    · have hq := found_all (err_p e) z36 (fun x => decide (x.f1 % 4294967296 > 0 ∧ x.f1 % 4294967296 < 100)) errList (by decide +kernel) hb
      rw [if_pos hb]
      simpa using hq
    · rw [if_neg hb]
      repeat' split
      all_goals omega
  obtain ⟨v, e1, v0, v1⟩ := h1
  unfold ferrylaw24_XlatErrors.f
  rw [e1, Option.bind_some]
  unfold xlat_Ask.f xlat_Name.f
  rw [Option.bind_some, Option.bind_some, if_pos v0, if_pos v1, hk]
  by_cases hc : (foundOf (of_p n) z39 callList).2 = true ∧ 0 ≤ (foundOf (of_p n) z39 callList).1.f0.f1
  · have hq := found_all (of_p n) z39 (fun x => !(x.f1.toList == [])) callList (by decide +kernel) hc.1
    have hq' : ¬ (foundOf (of_p n) z39 callList).1.f1.toList = [] := by simpa using hq
    simp only [if_pos hc, Option.bind_some, if_neg hq', if_true]
  · simp only [if_neg hc, Option.bind_some, Bool.false_eq_true, if_false]
end Go.Proofs.YtijghmpapmfndaaDoor.F
