/- The pure statement of the law XlatSigs, proved. No condition. -/
import Derived.Test.YtijghmpapmfndaaDoorQXlatSigs
namespace Go.Proofs.YtijghmpapmfndaaDoor.F
open Go.RowKit Go.Proofs.YtijghmpapmfndaaDoorW.PrintWords Go.Proofs.YtijghmpapmfndaaDoorW.PrintLast Go.Proofs.YtijghmpapmfndaaDoorW.PrintMore
set_option linter.unusedVariables false
set_option linter.unusedSimpArgs false
theorem found_is {α : Type} (p : α → Bool) (z : α) : ∀ (l : List α), (foundOf p z l).2 = true → (foundOf p z l).1 ∈ l ∧ p (foundOf p z l).1 = true
  | [], h => by cases h
  | x :: l, h => by
    unfold foundOf at h ⊢
    by_cases hp : p x = true
    · rw [if_pos hp]
      exact ⟨List.mem_cons_self, hp⟩
    · rw [if_neg hp] at h ⊢
      exact ⟨List.mem_cons_of_mem _ (found_is p z l h).1, (found_is p z l h).2⟩
theorem there_back : ∀ x ∈ sigList, ((foundOf (back_p x.f1) z36 sigList).1.f0, (foundOf (back_p x.f1) z36 sigList).2) = (x.f0, true) := by decide +kernel
theorem back_there : ∀ x ∈ sigList, ((foundOf (sig_p x.f0) z36 sigList).1.f1, (foundOf (sig_p x.f0) z36 sigList).2) = (x.f1, true) := by decide +kernel
theorem sigs_awake : ∀ k, ferrylaw24_awake.f (k + 40) = some true := fun k => by
  have h : ferrylaw24_awake.f 40 = some true := by decide +kernel
  induction k with
  | zero => simpa using h
  | succ k ih => exact ferrylaw24_awake.mono (k + 40) _ ih
theorem XlatSigs_pure : ferrylaw24_XlatSigs.Pure := by
  intro a b ha hb
  refine ⟨60, ?_⟩
  have aw := sigs_awake 18
  have aw' := sigs_awake 19
  have f1 := found_is (sig_p a) z36 sigList
  have f2 := found_is (back_p b) z36 sigList
  unfold ferrylaw24_XlatSigs.f xlat_Sig.f ferryref24_Sig.f xlat_Back.f ferryref24_Back.f
  obtain ⟨⟨x, u⟩, hx⟩ : ∃ y, foundOf (sig_p a) z36 sigList = y := ⟨_, rfl⟩
  obtain ⟨⟨y, v⟩, hy⟩ : ∃ y, foundOf (back_p b) z36 sigList = y := ⟨_, rfl⟩
  rw [hx] at f1 ⊢
  rw [hy] at f2 ⊢
  dsimp only at f1 f2 ⊢
  have e1 : u = true → xlat_Back.f x.f1 = some (a, true) := fun h => by
    have hm := f1 h
    have h2 := there_back x hm.1
    unfold xlat_Back.f
    rw [h2]
    have h3 : x.f0 = a := by simpa [sig_p] using hm.2
    rw [h3]
  have e2 : v = true → xlat_Sig.f y.f0 = some (b, true) := fun h => by
    have hm := f2 h
    have h2 := back_there y hm.1
    unfold xlat_Sig.f
    rw [h2]
    have h3 : y.f1 = b := by simpa [back_p] using hm.2
    rw [h3]
  simp only [Option.bind_some, bne_self_eq_false, Bool.false_eq_true, if_false, if_true]
  unfold ferrylaw24_XlatSigs.j0
  cases u <;> cases v
  · unfold ferrylaw24_XlatSigs.j1
    simp [aw, aw']
  · unfold ferrylaw24_XlatSigs.j1
    simp [aw, aw', e2]
  · unfold ferrylaw24_XlatSigs.j1
    simp [aw, aw', e1]
  · unfold ferrylaw24_XlatSigs.j1
    simp [aw, aw', e1, e2]
end Go.Proofs.YtijghmpapmfndaaDoor.F
