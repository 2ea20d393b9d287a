/- Package wide in plain numbers: what Hi and Lo are behind each instruction; the document's answer is the same. Condition: numbers of their kinds. -/
import Derived.Test.YtommcnppgodhgaaDoorBits
import Derived.Test.YtommcnppgodhgaaDoorHWideDo
import Derived.Test.YtommcnppgodhgaaDoorFFerryref10Do
import Derived.Test.YtommcnppgodhgaaDoorFFerryref10Known
namespace Go.Proofs.YtommcnppgodhgaaDoor.F
set_option linter.unusedVariables false
open Go.RowKit Go.Proofs.YtommcnppgodhgaaDoorW.PrintWords Go.Proofs.YtommcnppgodhgaaDoorW.PrintLast Go.Proofs.YtommcnppgodhgaaDoorW.PrintMore

theorem of_toList {a : ByteArray} {l : List UInt8} (h : a.toList = l) : a = ⟨l.toArray⟩ := by
  rw [ByteArray.toList_eq] at h
  exact WideShapes.bytes_inj (by rw [h])
/-- two halves of 64 bits -/
def hl (n : Int) : Option (Int × Int) := some (n / 4294967296 % 4294967296, n % 4294967296)
def U (n : Int) : Int := n % 18446744073709551616
theorem wrap64_32 (n : Int) : wrap64 (wrap32 n) = wrap32 n := by
  unfold wrap64 wrap32
  omega
theorem wrap64_u32 {n : Int} (h0 : 0 ≤ n) (h1 : n ≤ 4294967295) : wrap64 n = n := w64_id (by omega) (by omega)
theorem U_wrap64 (n : Int) : U (wrap64 n) = U n := by
  unfold U wrap64
  omega
theorem times_signed (s t : Int) : wideTimes false s t = U (wrap32 s * wrap32 t) := by
  unfold wideTimes wideRd
  simp only [Bool.false_eq_true, if_false]
  rw [wrap64_32, wrap64_32, u64w, u64w, u64w]
  unfold U
  rw [← Int.mul_emod]
theorem times_plain (s t : Int) (h0 : 0 ≤ s) (h1 : s ≤ 4294967295) (h2 : 0 ≤ t) (h3 : t ≤ 4294967295) : wideTimes true s t = U (s * t) := by
  unfold wideTimes wideRd
  simp only [if_true]
  rw [wrap64_u32 h0 h1, wrap64_u32 h2 h3, u64w, u64w, u64w]
  unfold U
  rw [← Int.mul_emod]
theorem both_of (h l : Int) (h0 : 0 ≤ h) (h1 : h ≤ 4294967295) (h2 : 0 ≤ l) (h3 : l ≤ 4294967295) : wideBoth h l = h * 4294967296 + l := by
  unfold wideBoth
  rw [u64w, u64w, u64w, Int.emod_eq_of_lt h0 (by omega), Int.emod_eq_of_lt h2 (by omega), Int.emod_eq_of_lt (by omega) (by omega)]
  exact join64 32 (by omega) (by omega) (by omega) h2 (by omega) (by omega)
theorem part_of (n : Int) : wide_part.f n = hl n := rfl
theorem ref_signed (s t : Int) : ferryref10_signed.f s t = some (U (wrap32 s * wrap32 t)) := by
  unfold ferryref10_signed.f
  rw [wrap64_32, wrap64_32, u64w]
  exact congrArg some (U_wrap64 _)
theorem ref_plain (s t : Int) (h0 : 0 ≤ s) (h1 : s ≤ 4294967295) (h2 : 0 ≤ t) (h3 : t ≤ 4294967295) : ferryref10_unsigned.f s t = some (U (s * t)) := by
  unfold ferryref10_unsigned.f
  rw [u64w, u64w, u64w, Int.emod_eq_of_lt h0 (by omega), Int.emod_eq_of_lt h2 (by omega)]
  rfl
theorem do_mult (s t h l : Int) (a0 : 0 ≤ s) (a1 : s ≤ 4294967295) (a2 : 0 ≤ t) (a3 : t ≤ 4294967295) (a4 : 0 ≤ h) (a5 : h ≤ 4294967295) (a6 : 0 ≤ l) (a7 : l ≤ 4294967295) : wide_Do.f ⟨#[109, 117, 108, 116]⟩ s t h l = hl (U (wrap32 s * wrap32 t)) := by
  unfold wide_Do.f
  rw [show strings_CutSuffix.f ⟨#[109, 117, 108, 116]⟩ ⟨#[117]⟩ = some (⟨#[109, 117, 108, 116]⟩, false) by decide +kernel]
  show (if (⟨#[109, 117, 108, 116]⟩ : ByteArray).toList ∈ wideNames then _ else _) = _
  rw [if_pos (by decide +kernel)]
  rw [if_pos (by decide +kernel)]
  show wide_part.f (wideTimes _ s t) = _
  rw [times_signed]
  rfl
theorem do_multu (s t h l : Int) (a0 : 0 ≤ s) (a1 : s ≤ 4294967295) (a2 : 0 ≤ t) (a3 : t ≤ 4294967295) (a4 : 0 ≤ h) (a5 : h ≤ 4294967295) (a6 : 0 ≤ l) (a7 : l ≤ 4294967295) : wide_Do.f ⟨#[109, 117, 108, 116, 117]⟩ s t h l = hl (U (s * t)) := by
  unfold wide_Do.f
  rw [show strings_CutSuffix.f ⟨#[109, 117, 108, 116, 117]⟩ ⟨#[117]⟩ = some (⟨#[109, 117, 108, 116]⟩, true) by decide +kernel]
  show (if (⟨#[109, 117, 108, 116, 117]⟩ : ByteArray).toList ∈ wideNames then _ else _) = _
  rw [if_pos (by decide +kernel)]
  rw [if_pos (by decide +kernel)]
  show wide_part.f (wideTimes _ s t) = _
  rw [times_plain s t a0 a1 a2 a3]
  rfl
theorem do_madd (s t h l : Int) (a0 : 0 ≤ s) (a1 : s ≤ 4294967295) (a2 : 0 ≤ t) (a3 : t ≤ 4294967295) (a4 : 0 ≤ h) (a5 : h ≤ 4294967295) (a6 : 0 ≤ l) (a7 : l ≤ 4294967295) : wide_Do.f ⟨#[109, 97, 100, 100]⟩ s t h l = hl (U (h * 4294967296 + l + U (wrap32 s * wrap32 t))) := by
  unfold wide_Do.f
  rw [show strings_CutSuffix.f ⟨#[109, 97, 100, 100]⟩ ⟨#[117]⟩ = some (⟨#[109, 97, 100, 100]⟩, false) by decide +kernel]
  show (if (⟨#[109, 97, 100, 100]⟩ : ByteArray).toList ∈ wideNames then _ else _) = _
  rw [if_pos (by decide +kernel)]
  rw [if_neg (by decide +kernel)]
  rw [if_pos (by decide +kernel)]
  show wide_part.f (IntKind.u64.wrap (wideBoth h l + wideTimes _ s t)) = _
  rw [times_signed, both_of h l a4 a5 a6 a7, u64w]
  rfl
theorem do_maddu (s t h l : Int) (a0 : 0 ≤ s) (a1 : s ≤ 4294967295) (a2 : 0 ≤ t) (a3 : t ≤ 4294967295) (a4 : 0 ≤ h) (a5 : h ≤ 4294967295) (a6 : 0 ≤ l) (a7 : l ≤ 4294967295) : wide_Do.f ⟨#[109, 97, 100, 100, 117]⟩ s t h l = hl (U (h * 4294967296 + l + U (s * t))) := by
  unfold wide_Do.f
  rw [show strings_CutSuffix.f ⟨#[109, 97, 100, 100, 117]⟩ ⟨#[117]⟩ = some (⟨#[109, 97, 100, 100]⟩, true) by decide +kernel]
  show (if (⟨#[109, 97, 100, 100, 117]⟩ : ByteArray).toList ∈ wideNames then _ else _) = _
  rw [if_pos (by decide +kernel)]
  rw [if_neg (by decide +kernel)]
  rw [if_pos (by decide +kernel)]
  show wide_part.f (IntKind.u64.wrap (wideBoth h l + wideTimes _ s t)) = _
  rw [times_plain s t a0 a1 a2 a3, both_of h l a4 a5 a6 a7, u64w]
  rfl
theorem do_msub (s t h l : Int) (a0 : 0 ≤ s) (a1 : s ≤ 4294967295) (a2 : 0 ≤ t) (a3 : t ≤ 4294967295) (a4 : 0 ≤ h) (a5 : h ≤ 4294967295) (a6 : 0 ≤ l) (a7 : l ≤ 4294967295) : wide_Do.f ⟨#[109, 115, 117, 98]⟩ s t h l = hl (U (h * 4294967296 + l - U (wrap32 s * wrap32 t))) := by
  unfold wide_Do.f
  rw [show strings_CutSuffix.f ⟨#[109, 115, 117, 98]⟩ ⟨#[117]⟩ = some (⟨#[109, 115, 117, 98]⟩, false) by decide +kernel]
  show (if (⟨#[109, 115, 117, 98]⟩ : ByteArray).toList ∈ wideNames then _ else _) = _
  rw [if_pos (by decide +kernel)]
  rw [if_neg (by decide +kernel)]
  rw [if_neg (by decide +kernel)]
  rw [if_pos (by decide +kernel)]
  show wide_part.f (IntKind.u64.wrap (wideBoth h l - wideTimes _ s t)) = _
  rw [times_signed, both_of h l a4 a5 a6 a7, u64w]
  rfl
theorem do_msubu (s t h l : Int) (a0 : 0 ≤ s) (a1 : s ≤ 4294967295) (a2 : 0 ≤ t) (a3 : t ≤ 4294967295) (a4 : 0 ≤ h) (a5 : h ≤ 4294967295) (a6 : 0 ≤ l) (a7 : l ≤ 4294967295) : wide_Do.f ⟨#[109, 115, 117, 98, 117]⟩ s t h l = hl (U (h * 4294967296 + l - U (s * t))) := by
  unfold wide_Do.f
  rw [show strings_CutSuffix.f ⟨#[109, 115, 117, 98, 117]⟩ ⟨#[117]⟩ = some (⟨#[109, 115, 117, 98]⟩, true) by decide +kernel]
  show (if (⟨#[109, 115, 117, 98, 117]⟩ : ByteArray).toList ∈ wideNames then _ else _) = _
  rw [if_pos (by decide +kernel)]
  rw [if_neg (by decide +kernel)]
  rw [if_neg (by decide +kernel)]
  rw [if_pos (by decide +kernel)]
  show wide_part.f (IntKind.u64.wrap (wideBoth h l - wideTimes _ s t)) = _
  rw [times_plain s t a0 a1 a2 a3, both_of h l a4 a5 a6 a7, u64w]
  rfl
theorem do_div (s t h l : Int) (a0 : 0 ≤ s) (a1 : s ≤ 4294967295) (a2 : 0 ≤ t) (a3 : t ≤ 4294967295) (a4 : 0 ≤ h) (a5 : h ≤ 4294967295) (a6 : 0 ≤ l) (a7 : l ≤ 4294967295) : wide_Do.f ⟨#[100, 105, 118]⟩ s t h l = wideQuo false s t := by
  unfold wide_Do.f
  rw [show strings_CutSuffix.f ⟨#[100, 105, 118]⟩ ⟨#[117]⟩ = some (⟨#[100, 105, 118]⟩, false) by decide +kernel]
  show (if (⟨#[100, 105, 118]⟩ : ByteArray).toList ∈ wideNames then _ else _) = _
  rw [if_pos (by decide +kernel)]
  rw [if_neg (by decide +kernel)]
  rw [if_neg (by decide +kernel)]
  rw [if_neg (by decide +kernel)]
  rw [if_pos (by decide +kernel)]
theorem do_divu (s t h l : Int) (a0 : 0 ≤ s) (a1 : s ≤ 4294967295) (a2 : 0 ≤ t) (a3 : t ≤ 4294967295) (a4 : 0 ≤ h) (a5 : h ≤ 4294967295) (a6 : 0 ≤ l) (a7 : l ≤ 4294967295) : wide_Do.f ⟨#[100, 105, 118, 117]⟩ s t h l = wideQuo true s t := by
  unfold wide_Do.f
  rw [show strings_CutSuffix.f ⟨#[100, 105, 118, 117]⟩ ⟨#[117]⟩ = some (⟨#[100, 105, 118]⟩, true) by decide +kernel]
  show (if (⟨#[100, 105, 118, 117]⟩ : ByteArray).toList ∈ wideNames then _ else _) = _
  rw [if_pos (by decide +kernel)]
  rw [if_neg (by decide +kernel)]
  rw [if_neg (by decide +kernel)]
  rw [if_neg (by decide +kernel)]
  rw [if_pos (by decide +kernel)]
theorem do_mthi (s t h l : Int) (a0 : 0 ≤ s) (a1 : s ≤ 4294967295) (a2 : 0 ≤ t) (a3 : t ≤ 4294967295) (a4 : 0 ≤ h) (a5 : h ≤ 4294967295) (a6 : 0 ≤ l) (a7 : l ≤ 4294967295) : wide_Do.f ⟨#[109, 116, 104, 105]⟩ s t h l = some (s, l) := by
  unfold wide_Do.f
  rw [show strings_CutSuffix.f ⟨#[109, 116, 104, 105]⟩ ⟨#[117]⟩ = some (⟨#[109, 116, 104, 105]⟩, false) by decide +kernel]
  show (if (⟨#[109, 116, 104, 105]⟩ : ByteArray).toList ∈ wideNames then _ else _) = _
  rw [if_pos (by decide +kernel)]
  rw [if_neg (by decide +kernel)]
  rw [if_neg (by decide +kernel)]
  rw [if_neg (by decide +kernel)]
  rw [if_neg (by decide +kernel)]
  rw [if_pos (by decide +kernel)]
theorem do_mtlo (s t h l : Int) (a0 : 0 ≤ s) (a1 : s ≤ 4294967295) (a2 : 0 ≤ t) (a3 : t ≤ 4294967295) (a4 : 0 ≤ h) (a5 : h ≤ 4294967295) (a6 : 0 ≤ l) (a7 : l ≤ 4294967295) : wide_Do.f ⟨#[109, 116, 108, 111]⟩ s t h l = some (h, s) := by
  unfold wide_Do.f
  rw [show strings_CutSuffix.f ⟨#[109, 116, 108, 111]⟩ ⟨#[117]⟩ = some (⟨#[109, 116, 108, 111]⟩, false) by decide +kernel]
  show (if (⟨#[109, 116, 108, 111]⟩ : ByteArray).toList ∈ wideNames then _ else _) = _
  rw [if_pos (by decide +kernel)]
  rw [if_neg (by decide +kernel)]
  rw [if_neg (by decide +kernel)]
  rw [if_neg (by decide +kernel)]
  rw [if_neg (by decide +kernel)]
  rw [if_neg (by decide +kernel)]
theorem cut_total (a : ByteArray) (h : a.size ≤ 140737488351232) : ∃ x, strings_CutSuffix.f a ⟨#[117]⟩ = some x := by
  unfold strings_CutSuffix.f stringslite_CutSuffix.f stringslite_HasSuffix.f
  have e : (((⟨#[117]⟩ : ByteArray).size : Nat) : Int) = 1 := rfl
  rw [e]
  by_cases hs : (a.size : Int) ≥ 1
  · have w : wrap64 ((a.size : Int) - 1) = (a.size : Int) - 1 := w64_id (by omega) (by omega)
    rw [if_pos hs, w, if_pos (by omega), if_pos (by omega)]
    simp only [Option.bind_some]
    split
    · rw [if_pos (by omega), if_pos (by omega)]
      exact ⟨_, rfl⟩
    · exact ⟨_, rfl⟩
  · rw [if_neg hs]
    exact ⟨_, rfl⟩
theorem do_else (a : ByteArray) (h : a.size ≤ 140737488351232) (hn : ¬ a.toList ∈ wideNames) (s t hi lo : Int) : wide_Do.f a s t hi lo = some (hi, lo) := by
  obtain ⟨x, hx⟩ := cut_total a h
  unfold wide_Do.f
  rw [hx]
  show (if a.toList ∈ wideNames then _ else _) = _
  rw [if_neg hn]
theorem size_of (s : Int) (h0 : 0 ≤ s) (h1 : s ≤ 4294967295) : ferryref10_size.f s = some (if s < 2147483648 then s else 4294967296 - s) := by
  unfold ferryref10_size.f
  by_cases hs : s < 2147483648
  · rw [if_neg (by omega), if_pos hs]
  · rw [if_pos (by omega), if_neg hs]
    congr 1
    omega
theorem wrap32_of (s : Int) (h0 : 0 ≤ s) (h1 : s ≤ 4294967295) : wrap32 s = if s < 2147483648 then s else s - 4294967296 := by
  unfold wrap32
  split <;> omega
theorem quo_abs (a b : Int) (hb : b ≠ 0) : (Int.tdiv (-a) b = - Int.tdiv a b ∧ Int.tmod (-a) b = - Int.tmod a b) ∧ (Int.tdiv a (-b) = - Int.tdiv a b ∧ Int.tmod a (-b) = Int.tmod a b) :=
  ⟨⟨Int.neg_tdiv .., Int.neg_tmod ..⟩, ⟨Int.tdiv_neg .., Int.tmod_neg ..⟩⟩
theorem quo_pos (a b : Int) (ha : 0 ≤ a) (hb : 0 < b) (hA : a ≤ 4294967295) : 0 ≤ Int.tdiv a b ∧ Int.tdiv a b ≤ 4294967295 ∧ 0 ≤ Int.tmod a b ∧ Int.tmod a b < b := by
  rw [Int.tdiv_eq_ediv_of_nonneg ha, Int.tmod_eq_emod_of_nonneg ha]
  have h1 : a / b ≤ a := Int.ediv_le_self b ha
  have h2 : 0 ≤ a / b := Int.ediv_nonneg ha (by omega)
  exact ⟨h2, by omega, Int.emod_nonneg _ (by omega), Int.emod_lt_of_pos _ hb⟩
/-- the quotient with signs is the document's -/
theorem quo_signed (s t : Int) (a0 : 0 ≤ s) (a1 : s ≤ 4294967295) (a2 : 0 ≤ t) (a3 : t ≤ 4294967295) (ht : t ≠ 0) : wideQuo false s t = ferryref10_part.f s t := by
  unfold wideQuo ferryref10_part.f
  rw [if_neg ht, size_of s a0 a1, size_of t a2 a3]
  simp only [Option.bind_some]
  have hr : ∀ n, wideRd false n = wrap32 n := fun n => by unfold wideRd; simp only [Bool.false_eq_true, if_false]; exact wrap64_32 n
  rw [hr, hr, wrap32_of s a0 a1, wrap32_of t a2 a3]
  by_cases hs : s < 2147483648
  · rw [if_pos hs, if_pos hs]
    have e1 : s / 2147483648 = 0 := by omega
    by_cases hT : t < 2147483648
    · rw [if_pos hT, if_pos hT, if_neg ht, if_neg ht, if_neg ht]
      have e2 : t / 2147483648 = 0 := by omega
      have q := quo_pos s t a0 (by omega) a1
      rw [e1, e2, if_pos rfl, if_neg (by decide), w64_id (by omega) (by omega)]
      congr 2
      omega
    · rw [if_neg hT, if_neg hT, if_neg (by omega), if_neg (by omega), if_neg (by omega)]
      have e2 : t / 2147483648 = 1 := by omega
      have q := quo_pos s (4294967296 - t) a0 (by omega) a1
      have z := (quo_abs s (4294967296 - t) (by omega)).2
      rw [show t - 4294967296 = -(4294967296 - t) by omega, z.1, z.2, e1, e2, if_neg (by decide), if_neg (by decide), w64_id (by omega) (by omega)]
      refine congrArg some (Prod.ext ?_ ?_)
      · show _ % _ = _
        omega
      · show _ % _ = _ % _
        omega
  · rw [if_neg hs, if_neg hs]
    have e1 : s / 2147483648 = 1 := by omega
    by_cases hT : t < 2147483648
    · rw [if_pos hT, if_pos hT, if_neg ht, if_neg ht, if_neg ht]
      have e2 : t / 2147483648 = 0 := by omega
      have q := quo_pos (4294967296 - s) t (by omega) (by omega) (by omega)
      have z := (quo_abs (4294967296 - s) t (by omega)).1
      rw [show s - 4294967296 = -(4294967296 - s) by omega, z.1, z.2, e1, e2, if_neg (by decide), if_pos rfl, w64_id (by omega) (by omega)]
      refine congrArg some (Prod.ext ?_ ?_)
      · show _ % _ = _
        omega
      · show _ % _ = _ % _
        omega
    · rw [if_neg hT, if_neg hT, if_neg (by omega), if_neg (by omega), if_neg (by omega)]
      have e2 : t / 2147483648 = 1 := by omega
      have q := quo_pos (4294967296 - s) (4294967296 - t) (by omega) (by omega) (by omega)
      have z := (quo_abs (4294967296 - s) (4294967296 - t) (by omega)).1
      have z2 := (quo_abs (-(4294967296 - s)) (4294967296 - t) (by omega)).2
      rw [show s - 4294967296 = -(4294967296 - s) by omega, show t - 4294967296 = -(4294967296 - t) by omega, z2.1, z2.2, z.1, z.2, e1, e2, if_pos rfl, if_pos rfl, Int.neg_neg, w64_id (by omega) (by omega)]
theorem part_total (s t : Int) (a0 : 0 ≤ s) (a1 : s ≤ 4294967295) (a2 : 0 ≤ t) (a3 : t ≤ 4294967295) (ht : t ≠ 0) : ∃ x, ferryref10_part.f s t = some x := by
  unfold ferryref10_part.f
  rw [size_of s a0 a1, size_of t a2 a3]
  simp only [Option.bind_some]
  have h0 : ¬ (if t < 2147483648 then t else 4294967296 - t) = 0 := by split <;> omega
  rw [if_neg h0, if_neg h0]
  repeat' split
  all_goals exact ⟨_, rfl⟩
theorem quo_plain (s t : Int) (a0 : 0 ≤ s) (a1 : s ≤ 4294967295) (a2 : 0 ≤ t) (a3 : t ≤ 4294967295) (ht : t ≠ 0) : wideQuo true s t = some (s % t, s / t) := by
  unfold wideQuo
  have hr : ∀ n : Int, 0 ≤ n → n ≤ 4294967295 → wideRd true n = n := fun n h0 h1 => by unfold wideRd; simp only [if_true]; exact wrap64_u32 h0 h1
  have q := quo_pos s t a0 (by omega) a1
  rw [if_neg ht, hr s a0 a1, hr t a2 a3, if_neg ht, w64_id (by omega) (by omega), Int.emod_eq_of_lt q.2.2.1 (by omega), Int.emod_eq_of_lt q.1 (by omega), Int.tdiv_eq_ediv_of_nonneg a0, Int.tmod_eq_emod_of_nonneg a0]
end Go.Proofs.YtommcnppgodhgaaDoor.F
