/- The pure statement of the law WideBack, proved. No condition. -/
import Derived.Test.YtommcnppgodhgaaDoorQWideBack
import Derived.Test.YtommcnppgodhgaaDoorPWide
namespace Go.Proofs.YtommcnppgodhgaaDoor.F
open Go.RowKit Go.Proofs.YtommcnppgodhgaaDoorW.PrintWords Go.Proofs.YtommcnppgodhgaaDoorW.PrintLast Go.Proofs.YtommcnppgodhgaaDoorW.PrintMore
set_option linter.unusedVariables false
theorem back_awake : ferrylaw10_awake.f = some true := by decide +kernel
theorem hl_of (n : Int) (h0 : 0 ≤ n) (h1 : n ≤ 18446744073709551615) : 0 ≤ n / 4294967296 % 4294967296 ∧ n / 4294967296 % 4294967296 ≤ 4294967295 ∧ 0 ≤ n % 4294967296 ∧ n % 4294967296 ≤ 4294967295 ∧ n / 4294967296 % 4294967296 * 4294967296 + n % 4294967296 = n := by omega
theorem U_bound (n : Int) : 0 ≤ U n ∧ U n ≤ 18446744073709551615 := by
  unfold U
  omega
theorem back_sub (b p : Int) (h0 : 0 ≤ b) (h1 : b ≤ 18446744073709551615) : U (U (b + p) - p) = b := by
  unfold U
  omega
/-- what was added is taken away -/
theorem again (h l p : Int) (a4 : 0 ≤ h) (a5 : h ≤ 4294967295) (a6 : 0 ≤ l) (a7 : l ≤ 4294967295) (x y : Int) (e : hl (U (h * 4294967296 + l + p)) = some (x, y)) :
    0 ≤ x ∧ x ≤ 4294967295 ∧ 0 ≤ y ∧ y ≤ 4294967295 ∧ hl (U (x * 4294967296 + y - p)) = some (h, l) := by
  have hb := U_bound (h * 4294967296 + l + p)
  have ho := hl_of (U (h * 4294967296 + l + p)) hb.1 hb.2
  obtain ⟨rfl, rfl⟩ := Prod.mk.inj (Option.some.inj e)
  refine ⟨ho.1, ho.2.1, ho.2.2.1, ho.2.2.2.1, ?_⟩
  rw [ho.2.2.2.2, back_sub _ p (by omega) (by omega)]
  unfold hl
  refine congrArg some (Prod.ext ?_ ?_)
  · show (h * 4294967296 + l) / 4294967296 % 4294967296 = h
    omega
  · show (h * 4294967296 + l) % 4294967296 = l
    omega
/-- the quotient times the divisor, and what is left, are the number -/
theorem back_signed (s t : Int) (a0 : 0 ≤ s) (a1 : s ≤ 4294967295) (a2 : 0 ≤ t) (a3 : t ≤ 4294967295) : ∃ r q, wideQuo false s t = some (r, q) ∧ (t = 0 → r = s) ∧ (t ≠ 0 → (q * t % 4294967296 + r) % 4294967296 = s) := by
  unfold wideQuo
  by_cases ht : t = 0
  · rw [if_pos ht]
    exact ⟨_, _, rfl, fun _ => rfl, fun h => absurd ht h⟩
  · have hr : ∀ n, wideRd false n = wrap32 n := fun n => by unfold wideRd; simp only [Bool.false_eq_true, if_false]; exact wrap64_32 n
    rw [if_neg ht, hr, hr]
    have n0 : ¬ wrap32 t = 0 := by unfold wrap32; omega
    rw [if_neg n0]
    refine ⟨_, _, rfl, fun h => absurd h ht, fun _ => ?_⟩
    have e := Int.mul_tdiv_add_tmod (wrap32 s) (wrap32 t)
    have eq : wrap64 (Int.tdiv (wrap32 s) (wrap32 t)) % 4294967296 = Int.tdiv (wrap32 s) (wrap32 t) % 4294967296 := by unfold wrap64; omega
    rw [eq]
    generalize Int.tdiv (wrap32 s) (wrap32 t) = q at e ⊢
    generalize Int.tmod (wrap32 s) (wrap32 t) = r at e ⊢
    have hs : wrap32 s % 4294967296 = s := by unfold wrap32; omega
    have ht2 : wrap32 t % 4294967296 = t % 4294967296 := by unfold wrap32; omega
    rw [← Int.add_emod, Int.add_emod, Int.mul_emod, Int.emod_emod_of_dvd _ (Int.dvd_refl _), ← ht2, ← Int.mul_emod, ← Int.add_emod, Int.mul_comm, e, hs] 
theorem back_plain (s t : Int) (a0 : 0 ≤ s) (a1 : s ≤ 4294967295) (a2 : 0 ≤ t) (a3 : t ≤ 4294967295) : ∃ r q, wideQuo true s t = some (r, q) ∧ (t = 0 → r = s) ∧ (t ≠ 0 → (q * t % 4294967296 + r) % 4294967296 = s ∧ r < t) := by
  by_cases ht : t = 0
  · unfold wideQuo
    rw [if_pos ht]
    exact ⟨_, _, rfl, fun _ => rfl, fun h => absurd ht h⟩
  · rw [quo_plain s t a0 a1 a2 a3 ht]
    refine ⟨_, _, rfl, fun h => absurd h ht, fun _ => ⟨?_, Int.emod_lt_of_pos _ (by omega)⟩⟩
    have e := Int.mul_ediv_add_emod s t
    rw [Int.mul_comm] at e
    generalize s / t * t = z at e
    omega
theorem back_j0 (x0 x1 x2 x3 : Int) (a0 : 0 ≤ x0) (a1 : x0 ≤ 4294967295) (a2 : 0 ≤ x1) (a3 : x1 ≤ 4294967295) (a4 : 0 ≤ x2) (a5 : x2 ≤ 4294967295) (a6 : 0 ≤ x3) (a7 : x3 ≤ 4294967295) :
    ferrylaw10_WideBack.j0 1 x0 x1 x2 x3 false = some true := by
  simp only [ferrylaw10_WideBack.j0]
  rw [if_neg (by decide), do_madd x0 x1 x2 x3 a0 a1 a2 a3 a4 a5 a6 a7]
  obtain ⟨x, y, e1⟩ : ∃ x y, hl (U (x2 * 4294967296 + x3 + U (wrap32 x0 * wrap32 x1))) = some (x, y) := ⟨_, _, rfl⟩
  obtain ⟨b0, b1, b2, b3, e2⟩ := again x2 x3 _ a4 a5 a6 a7 x y e1
  rw [e1, Option.bind_some, do_msub x0 x1 x y a0 a1 a2 a3 b0 b1 b2 b3, e2, Option.bind_some, do_maddu x0 x1 x2 x3 a0 a1 a2 a3 a4 a5 a6 a7]
  clear e1 e2
  obtain ⟨z, u, e1⟩ : ∃ x y, hl (U (x2 * 4294967296 + x3 + U (x0 * x1))) = some (x, y) := ⟨_, _, rfl⟩
  obtain ⟨c0, c1, c2, c3, e2⟩ := again x2 x3 _ a4 a5 a6 a7 z u e1
  rw [e1, Option.bind_some, do_msubu x0 x1 z u a0 a1 a2 a3 c0 c1 c2 c3, e2, Option.bind_some, do_mult x0 x1 1 2 a0 a1 a2 a3 (by decide) (by decide) (by decide) (by decide), do_madd x0 x1 0 0 a0 a1 a2 a3 (by decide) (by decide) (by decide) (by decide), back_awake]
  have e3 : U (0 * 4294967296 + 0 + U (wrap32 x0 * wrap32 x1)) = U (wrap32 x0 * wrap32 x1) := by unfold U; omega
  rw [e3]
  obtain ⟨m, n, e4⟩ : ∃ x y, hl (U (wrap32 x0 * wrap32 x1)) = some (x, y) := ⟨_, _, rfl⟩
  rw [e4]
  simp only [Option.bind_some, if_true]
theorem WideBack_pure : ferrylaw10_WideBack.Pure := by
  intro s t h l h0 h1 h2 h3
  refine ⟨1, ?_⟩
  unfold ferrylaw10_WideBack.f
  rw [do_div s t h l h0.1 h0.2 h1.1 h1.2 h2.1 h2.2 h3.1 h3.2, do_divu s t h l h0.1 h0.2 h1.1 h1.2 h2.1 h2.2 h3.1 h3.2]
  obtain ⟨r, q, e1, f1, f2⟩ := back_signed s t h0.1 h0.2 h1.1 h1.2
  obtain ⟨u, v, e2, g1, g2⟩ := back_plain s t h0.1 h0.2 h1.1 h1.2
  rw [e1, Option.bind_some, e2, Option.bind_some]
  have J := back_j0 s t h l h0.1 h0.2 h1.1 h1.2 h2.1 h2.2 h3.1 h3.2
  dsimp only
  by_cases ht : t = 0
  · rw [f1 ht, g1 ht]
    have e3 : (s != s) = false := by simp
    simp only [if_pos ht, e3, J, if_true, ite_self]
  · rw [(f2 ht), (g2 ht).1, if_pos rfl, if_pos rfl, if_neg ht, if_neg (by have := (g2 ht).2; omega), J]
end Go.Proofs.YtommcnppgodhgaaDoor.F
