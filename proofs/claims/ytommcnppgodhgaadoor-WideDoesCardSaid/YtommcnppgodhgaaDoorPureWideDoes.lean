/- The pure statement of the law WideDoes, proved. No condition. -/
import Derived.Test.YtommcnppgodhgaaDoorQWideDoes
import Derived.Test.YtommcnppgodhgaaDoorPWide
namespace Go.Proofs.YtommcnppgodhgaaDoor.F
open Go.RowKit Go.Proofs.YtommcnppgodhgaaDoorW.PrintWords Go.Proofs.YtommcnppgodhgaaDoorW.PrintLast Go.Proofs.YtommcnppgodhgaaDoorW.PrintMore
set_option linter.unusedVariables false
theorem known_same (a : ByteArray) : ferryref10_Known.f a = some (decide (a.toList ∈ wideNames)) := by
  unfold ferryref10_Known.f wideNames
  repeat' split
  all_goals simp_all
theorem ref_j0 (x0 : ByteArray) (x1 x2 x3 x4 : Int) (b : Bool) : ferryref10_Do.j0 1 x0 x1 x2 x3 x4 b = if b = true then (if x2 = 0 then (some (x1, 4294967295)) else (if x0.toList = ([100, 105, 118] : List UInt8) then ((ferryref10_part.f x1 x2).bind fun bt131 => (some (bt131.1, bt131.2))) else (some (Int.tmod x1 x2, (Int.tdiv x1 x2) % 4294967296)))) else (some (x3, x4)) := rfl
theorem wide_awake : ferrylaw10_awake.f = some true := by decide +kernel
theorem do_same (a : ByteArray) (w : a.size ≤ 140737488351232) (s t h l : Int) (a0 : 0 ≤ s) (a1 : s ≤ 4294967295) (a2 : 0 ≤ t) (a3 : t ≤ 4294967295) (a4 : 0 ≤ h) (a5 : h ≤ 4294967295) (a6 : 0 ≤ l) (a7 : l ≤ 4294967295) :
    ∃ x y, wide_Do.f a s t h l = some (x, y) ∧ ferryref10_Do.f 1 a s t h l = some (x, y) := by
  by_cases hk : a.toList ∈ wideNames
  · have hc : a.toList = [109, 117, 108, 116] ∨ a.toList = [109, 117, 108, 116, 117] ∨ a.toList = [100, 105, 118] ∨ a.toList = [100, 105, 118, 117] ∨ a.toList = [109, 97, 100, 100] ∨ a.toList = [109, 97, 100, 100, 117] ∨ a.toList = [109, 115, 117, 98] ∨ a.toList = [109, 115, 117, 98, 117] ∨ a.toList = [109, 116, 104, 105] ∨ a.toList = [109, 116, 108, 111] := by simpa [wideNames] using hk
    clear hk
    rcases hc with hq | hq | hq | hq | hq | hq | hq | hq | hq | hq
    · obtain rfl := of_toList hq
      rw [do_mult s t h l a0 a1 a2 a3 a4 a5 a6 a7]
      clear hq
      unfold ferryref10_Do.f
      rw [if_pos (by decide +kernel)]
      rw [ref_signed]
      exact ⟨_, _, rfl, rfl⟩
    · obtain rfl := of_toList hq
      rw [do_multu s t h l a0 a1 a2 a3 a4 a5 a6 a7]
      clear hq
      unfold ferryref10_Do.f
      rw [if_neg (by decide +kernel)]
      rw [if_pos (by decide +kernel)]
      rw [ref_plain s t a0 a1 a2 a3]
      exact ⟨_, _, rfl, rfl⟩
    · obtain rfl := of_toList hq
      rw [do_div s t h l a0 a1 a2 a3 a4 a5 a6 a7]
      clear hq
      unfold ferryref10_Do.f
      rw [if_neg (by decide +kernel)]
      rw [if_neg (by decide +kernel)]
      rw [if_neg (by decide +kernel)]
      rw [if_neg (by decide +kernel)]
      rw [if_neg (by decide +kernel)]
      rw [if_neg (by decide +kernel)]
      rw [if_neg (by decide +kernel)]
      rw [if_neg (by decide +kernel)]
      rw [if_pos (by decide +kernel)]
      rw [ref_j0]
      rw [if_pos (by decide +kernel)]
      by_cases ht : t = 0
      · rw [if_pos ht]
        refine ⟨s, 4294967295, ?_, rfl⟩
        unfold wideQuo
        rw [if_pos ht]
      · rw [if_neg ht]
        rw [if_pos (by decide +kernel), quo_signed s t a0 a1 a2 a3 ht]
        obtain ⟨⟨x, y⟩, hx⟩ : ∃ x, ferryref10_part.f s t = some x := part_total s t a0 a1 a2 a3 ht
        rw [hx]
        exact ⟨x, y, rfl, rfl⟩
    · obtain rfl := of_toList hq
      rw [do_divu s t h l a0 a1 a2 a3 a4 a5 a6 a7]
      clear hq
      unfold ferryref10_Do.f
      rw [if_neg (by decide +kernel)]
      rw [if_neg (by decide +kernel)]
      rw [if_neg (by decide +kernel)]
      rw [if_neg (by decide +kernel)]
      rw [if_neg (by decide +kernel)]
      rw [if_neg (by decide +kernel)]
      rw [if_neg (by decide +kernel)]
      rw [if_neg (by decide +kernel)]
      rw [if_neg (by decide +kernel)]
      rw [ref_j0]
      rw [if_pos (by decide +kernel)]
      by_cases ht : t = 0
      · rw [if_pos ht]
        refine ⟨s, 4294967295, ?_, rfl⟩
        unfold wideQuo
        rw [if_pos ht]
      · rw [if_neg ht]
        rw [if_neg (by decide +kernel), quo_plain s t a0 a1 a2 a3 ht, Int.tmod_eq_emod_of_nonneg a0, Int.tdiv_eq_ediv_of_nonneg a0]
        have h1 : s / t ≤ s := Int.ediv_le_self t a0
        have h2 : 0 ≤ s / t := Int.ediv_nonneg a0 a2
        exact ⟨_, _, rfl, by rw [Int.emod_eq_of_lt h2 (by omega)]⟩
    · obtain rfl := of_toList hq
      rw [do_madd s t h l a0 a1 a2 a3 a4 a5 a6 a7]
      clear hq
      unfold ferryref10_Do.f
      rw [if_neg (by decide +kernel)]
      rw [if_neg (by decide +kernel)]
      rw [if_pos (by decide +kernel)]
      rw [ref_signed]
      have eb : bits .or .u64 (IntKind.u64.wrap (IntKind.u64.wrap h * 4294967296)) (IntKind.u64.wrap l) = h * 4294967296 + l := both_of h l a4 a5 a6 a7
      rw [eb]
      exact ⟨_, _, rfl, by show hl (IntKind.u64.wrap _) = _; rw [u64w]; rfl⟩
    · obtain rfl := of_toList hq
      rw [do_maddu s t h l a0 a1 a2 a3 a4 a5 a6 a7]
      clear hq
      unfold ferryref10_Do.f
      rw [if_neg (by decide +kernel)]
      rw [if_neg (by decide +kernel)]
      rw [if_neg (by decide +kernel)]
      rw [if_pos (by decide +kernel)]
      rw [ref_plain s t a0 a1 a2 a3]
      have eb : bits .or .u64 (IntKind.u64.wrap (IntKind.u64.wrap h * 4294967296)) (IntKind.u64.wrap l) = h * 4294967296 + l := both_of h l a4 a5 a6 a7
      rw [eb]
      exact ⟨_, _, rfl, by show hl (IntKind.u64.wrap _) = _; rw [u64w]; rfl⟩
    · obtain rfl := of_toList hq
      rw [do_msub s t h l a0 a1 a2 a3 a4 a5 a6 a7]
      clear hq
      unfold ferryref10_Do.f
      rw [if_neg (by decide +kernel)]
      rw [if_neg (by decide +kernel)]
      rw [if_neg (by decide +kernel)]
      rw [if_neg (by decide +kernel)]
      rw [if_pos (by decide +kernel)]
      rw [ref_signed]
      have eb : bits .or .u64 (IntKind.u64.wrap (IntKind.u64.wrap h * 4294967296)) (IntKind.u64.wrap l) = h * 4294967296 + l := both_of h l a4 a5 a6 a7
      rw [eb]
      exact ⟨_, _, rfl, by show hl (IntKind.u64.wrap _) = _; rw [u64w]; rfl⟩
    · obtain rfl := of_toList hq
      rw [do_msubu s t h l a0 a1 a2 a3 a4 a5 a6 a7]
      clear hq
      unfold ferryref10_Do.f
      rw [if_neg (by decide +kernel)]
      rw [if_neg (by decide +kernel)]
      rw [if_neg (by decide +kernel)]
      rw [if_neg (by decide +kernel)]
      rw [if_neg (by decide +kernel)]
      rw [if_pos (by decide +kernel)]
      rw [ref_plain s t a0 a1 a2 a3]
      have eb : bits .or .u64 (IntKind.u64.wrap (IntKind.u64.wrap h * 4294967296)) (IntKind.u64.wrap l) = h * 4294967296 + l := both_of h l a4 a5 a6 a7
      rw [eb]
      exact ⟨_, _, rfl, by show hl (IntKind.u64.wrap _) = _; rw [u64w]; rfl⟩
    · obtain rfl := of_toList hq
      rw [do_mthi s t h l a0 a1 a2 a3 a4 a5 a6 a7]
      clear hq
      unfold ferryref10_Do.f
      rw [if_neg (by decide +kernel)]
      rw [if_neg (by decide +kernel)]
      rw [if_neg (by decide +kernel)]
      rw [if_neg (by decide +kernel)]
      rw [if_neg (by decide +kernel)]
      rw [if_neg (by decide +kernel)]
      rw [if_pos (by decide +kernel)]
      exact ⟨_, _, rfl, rfl⟩
    · obtain rfl := of_toList hq
      rw [do_mtlo s t h l a0 a1 a2 a3 a4 a5 a6 a7]
      clear hq
      unfold ferryref10_Do.f
      rw [if_neg (by decide +kernel)]
      rw [if_neg (by decide +kernel)]
      rw [if_neg (by decide +kernel)]
      rw [if_neg (by decide +kernel)]
      rw [if_neg (by decide +kernel)]
      rw [if_neg (by decide +kernel)]
      rw [if_neg (by decide +kernel)]
      rw [if_pos (by decide +kernel)]
      exact ⟨_, _, rfl, rfl⟩
  · rw [do_else a w hk]
    refine ⟨h, l, rfl, ?_⟩
    have hn : ¬ a.toList = [109, 117, 108, 116] ∧ ¬ a.toList = [109, 117, 108, 116, 117] ∧ ¬ a.toList = [109, 97, 100, 100] ∧ ¬ a.toList = [109, 97, 100, 100, 117] ∧ ¬ a.toList = [109, 115, 117, 98] ∧ ¬ a.toList = [109, 115, 117, 98, 117] ∧ ¬ a.toList = [109, 116, 104, 105] ∧ ¬ a.toList = [109, 116, 108, 111] ∧ ¬ a.toList = [100, 105, 118] ∧ ¬ a.toList = [100, 105, 118, 117] := by
      refine ⟨fun e => hk (by rw [e]; decide +kernel), fun e => hk (by rw [e]; decide +kernel), fun e => hk (by rw [e]; decide +kernel), fun e => hk (by rw [e]; decide +kernel), fun e => hk (by rw [e]; decide +kernel), fun e => hk (by rw [e]; decide +kernel), fun e => hk (by rw [e]; decide +kernel), fun e => hk (by rw [e]; decide +kernel), fun e => hk (by rw [e]; decide +kernel), fun e => hk (by rw [e]; decide +kernel)⟩
    obtain ⟨n0, n1, n2, n3, n4, n5, n6, n7, n8, n9⟩ := hn
    unfold ferryref10_Do.f
    rw [if_neg n0]
    rw [if_neg n1]
    rw [if_neg n2]
    rw [if_neg n3]
    rw [if_neg n4]
    rw [if_neg n5]
    rw [if_neg n6]
    rw [if_neg n7]
    rw [if_neg n8]
    rw [ref_j0]
    rw [if_neg (by simpa using n9)]
theorem WideDoes_pure : ferrylaw10_WideDoes.Pure := by
  intro a s t h l w h0 h1 h2 h3
  obtain ⟨x, y, e1, e2⟩ := do_same a w s t h l h0.1 h0.2 h1.1 h1.2 h2.1 h2.2 h3.1 h3.2
  refine ⟨1, ?_⟩
  unfold ferrylaw10_WideDoes.f
  rw [e1, e2, known_same, wide_awake]
  simp only [Option.bind_some, if_true, wide_Known.f, beq_self_eq_true]
end Go.Proofs.YtommcnppgodhgaaDoor.F
