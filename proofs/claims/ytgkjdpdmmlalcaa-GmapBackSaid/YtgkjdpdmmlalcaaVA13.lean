import Derived.Test.YtgkjdpdmmlalcaaVZF0
import Derived.Test.YtgkjdpdmmlalcaaVA0
import Derived.Test.YtgkjdpdmmlalcaaVA1HHost1
import Derived.Test.YtgkjdpdmmlalcaaVA3
import Derived.Test.YtgkjdpdmmlalcaaVA4HHost3
import Derived.Test.YtgkjdpdmmlalcaaVA5
import Derived.Test.YtgkjdpdmmlalcaaVA6HHost11
import Derived.Test.YtgkjdpdmmlalcaaVA7
import Derived.Test.YtgkjdpdmmlalcaaVA9
import Derived.Test.YtgkjdpdmmlalcaaVA11
import Derived.Test.YtgkjdpdmmlalcaaVA12FFerryref03Same
section
namespace Go.Proofs.Ytgkjdpdmmlalcaa.F
open Go.RowKit Go.Shelf Go.Proofs.YtgkjdpdmmlalcaaW.PrintWords Go.Proofs.YtgkjdpdmmlalcaaW.PrintLast Go.Proofs.YtgkjdpdmmlalcaaW.PrintMore
set_option linter.unusedVariables false
set_option linter.unusedSimpArgs false
theorem andNot7_i64 {n : Int} (h0 : -9223372036854775808 ≤ n) (h1 : n ≤ 9223372036854775807) : Go.bits .andNot .i64 n 7 = n - n % 8 := by
  have h := bv_andNot (BitVec.ofInt 64 n) (BitVec.ofInt 64 7)
  have e : (BitVec.ofInt 64 n &&& BitVec.ofInt 64 7).toNat = (n % ((2 ^ 64 : Nat) : Int)).toNat % 8 := by
    rw [BitVec.toNat_and, BitVec.toNat_ofInt, show (BitVec.ofInt 64 7).toNat = 2 ^ 3 - 1 from rfl, Nat.and_two_pow_sub_one_eq_mod]
  rw [e, BitVec.toNat_ofInt] at h
  show IntKind.i64.wrap (((BitVec.ofInt 64 n &&& ~~~BitVec.ofInt 64 7).toNat : Nat) : Int) = _
  rw [IntKind.wrap_i64]
  have h3 : ((2 ^ 64 : Nat) : Int) = 18446744073709551616 := rfl
  rw [h3] at h
  omega
theorem badProt_iff {n : Int} (h0 : -9223372036854775808 ≤ n) (h1 : n ≤ 9223372036854775807) : (Go.bits .andNot .i64 n 7 != 0) = !decide (0 ≤ n ∧ n ≤ 7) := by
  rw [andNot7_i64 h0 h1]
  by_cases h : 0 ≤ n ∧ n ≤ 7
  · rw [decide_eq_true h, bne_eq_false_iff_eq.2 (by omega)]
    rfl
  rw [decide_eq_false h, bne_iff_ne.2 (by omega)]
  rfl
theorem rises_of_next {α : Type} {key : α → Int} : ∀ {l : List α}, (∀ i (h : i + 1 < l.length), key (l[i]'(by omega)) < key l[i + 1]) → Rises key l
  | [], _ => trivial
  | [_], _ => trivial
  | x :: y :: l, h => ⟨h 0 (by simp), rises_of_next (l := y :: l) (fun i hi => h (i + 1) (by simpa using hi))⟩
theorem rises_prev {α : Type} {key : α → Int} (l : List α) : Rises key l ↔ ∀ i (h : i < l.length), prevGe key l i (key l[i]) = false := by
  constructor
  · intro hr i hi
    cases i with
    | zero => rfl
    | succ j =>
      rw [prevGe_succ key l j (by omega)]
      have := rises_get key hr j (j + 1) hi (by omega)
      exact decide_eq_false (by omega)
  · intro h
    refine rises_of_next (fun i hi => ?_)
    have h2 := h (i + 1) hi
    rw [prevGe_succ key l i (by omega)] at h2
    have := of_decide_eq_false h2
    omega
structure FitH (l : List SM) (m : List SC) : Prop where
  lr : Rises mpK l
  ln : l.length ≤ 64
  lp : ∀ x ∈ l, 0 ≤ x.f0 ∧ x.f0 < 1125899906842624 ∧ 0 ≤ x.f1 ∧ x.f1 ≤ 7
  mr : Rises clK m
  mn : m.length ≤ 131072
  mp : ∀ x ∈ m, 0 ≤ x.f0 ∧ x.f0 < 18446744073709551616 ∧ x.f0 % 8 = 0 ∧ 0 < x.f1 ∧ x.f1 < 18446744073709551616 ∧ has mpK (x.f0 / 16384) l = true
theorem tmod8 {a : Int} (h : 0 ≤ a) : (Int.tmod a 8 != 0) = !decide (a % 8 = 0) := by
  rw [Int.tmod_eq_emod_of_nonneg h]
  by_cases h2 : a % 8 = 0
  · rw [decide_eq_true h2, bne_eq_false_iff_eq.2 h2]
    rfl
  rw [decide_eq_false h2, bne_iff_ne.2 h2]
  rfl
theorem badM_iff {l : List SM} (wl : ∀ x ∈ l, wfM x) (k : Nat) (hk : k < l.length) : badM l k = false ↔ (l[k].f0 < 1125899906842624 ∧ 0 ≤ l[k].f1 ∧ l[k].f1 ≤ 7) ∧ prevGe mpK l k (mpK l[k]) = false := by
  unfold badM
  rw [List.getElem?_eq_getElem hk]
  simp only [Bool.or_eq_false_iff, decide_eq_false_iff_not]
  constructor
  · rintro ⟨h1, h2, h3, h4⟩
    exact ⟨⟨by omega, by omega, by omega⟩, h4⟩
  · rintro ⟨⟨h1, h2, h3⟩, h4⟩
    exact ⟨by omega, by omega, by omega, h4⟩
theorem badC_iff {l : List SM} {m : List SC} (wm : ∀ x ∈ m, wfC x) (k : Nat) (hk : k < m.length) : badC l m k = false ↔ (m[k].f0 % 8 = 0 ∧ m[k].f1 ≠ 0 ∧ has mpK (m[k].f0 / 16384) l = true) ∧ prevGe clK m k (clK m[k]) = false := by
  have hw := wm _ (List.getElem_mem hk)
  have h0 : 0 ≤ m[k].f0 ∧ m[k].f0 ≤ 18446744073709551615 := hw.1
  unfold badC
  rw [List.getElem?_eq_getElem hk]
  dsimp only
  rw [tmod8 h0.1, quo_u64 h0.1 (by omega) (by omega), placeR_has]
  simp only [Bool.or_eq_false_iff, Bool.not_eq_false', decide_eq_true_eq, beq_eq_false_iff_ne]
  constructor
  · rintro ⟨h1, h2, h3, h4⟩
    exact ⟨⟨h1, h2, h4⟩, h3⟩
  · rintro ⟨⟨h1, h2, h3⟩, h4⟩
    exact ⟨h1, h2, h4, h3⟩
theorem not_any_range {n : Nat} {p : Nat → Bool} : (!((List.range n).any p)) = true ↔ ∀ k, k < n → p k = false := by
  rw [Bool.not_eq_true', List.any_eq_false]
  constructor
  · intro h k hk
    have := h k (List.mem_range.2 hk)
    simpa using this
  · intro h k hk
    rw [h k (List.mem_range.1 hk)]
    simp
theorem fitR_iff {l : List SM} {m : List SC} (wl : ∀ x ∈ l, wfM x) (wm : ∀ x ∈ m, wfC x) : fitR l m = true ↔ FitH l m := by
  unfold fitR
  simp only [Bool.and_eq_true, decide_eq_true_eq]
  rw [not_any_range, not_any_range]
  constructor
  · rintro ⟨h1, h2, h3, h4⟩
    have b1 := fun k hk => (badM_iff wl k hk).1 (h3 k hk)
    have b2 := fun k hk => (badC_iff wm k hk).1 (h4 k hk)
    refine ⟨(rises_prev l).2 (fun i hi => (b1 i hi).2), h1, fun x hx => ?_, (rises_prev m).2 (fun i hi => (b2 i hi).2), h2, fun x hx => ?_⟩
    · obtain ⟨i, hi, rfl⟩ := List.getElem_of_mem hx
      have hw : (0 ≤ l[i].f0 ∧ l[i].f0 ≤ 18446744073709551615) ∧ _ := wl _ hx
      have := (b1 i hi).1
      exact ⟨hw.1.1, this.1, this.2.1, this.2.2⟩
    · obtain ⟨i, hi, rfl⟩ := List.getElem_of_mem hx
      have hw : (0 ≤ m[i].f0 ∧ m[i].f0 ≤ 18446744073709551615) ∧ (0 ≤ m[i].f1 ∧ m[i].f1 ≤ 18446744073709551615) := wm _ hx
      have := (b2 i hi).1
      have h5 := this.2.1
      exact ⟨hw.1.1, by omega, this.1, by omega, by omega, this.2.2⟩
  · intro h
    refine ⟨h.ln, h.mn, fun k hk => (badM_iff wl k hk).2 ?_, fun k hk => (badC_iff wm k hk).2 ?_⟩
    · have := h.lp _ (List.getElem_mem hk)
      exact ⟨⟨this.2.1, this.2.2.1, this.2.2.2⟩, (rises_prev l).1 h.lr k hk⟩
    · have := h.mp _ (List.getElem_mem hk)
      exact ⟨⟨this.2.2.1, by omega, this.2.2.2.2.2⟩, (rises_prev m).1 h.mr k hk⟩
theorem and7_u64 {a : Int} (h0 : 0 ≤ a) (h1 : a ≤ 18446744073709551615) : Go.bits .and .u64 a 7 = a % 8 := mask64 3 (by decide) h0 h1
theorem fitB_iff {l : List SM} {m : List SC} (wl : ∀ x ∈ l, wfM x) (wm : ∀ x ∈ m, wfC x) : fitB l m = true ↔ FitH l m := by
  unfold fitB
  simp only [Bool.and_eq_true, decide_eq_true_eq, Bool.not_eq_true', List.any_eq_false]
  rw [risesB_iff, risesB_iff]
  constructor
  · rintro ⟨h1, h2, h3, h4, h5, h6⟩
    refine ⟨h1, h3, fun x hx => ?_, h2, h4, fun x hx => ?_⟩
    · have hw : (0 ≤ x.f0 ∧ x.f0 ≤ 18446744073709551615) ∧ (-9223372036854775808 ≤ x.f1 ∧ x.f1 ≤ 9223372036854775807) := wl _ hx
      have h7 := h5 x hx
      unfold fitMap at h7
      rw [badProt_iff hw.2.1 hw.2.2] at h7
      simp only [Bool.or_eq_true, decide_eq_true_eq, Bool.not_eq_true', decide_eq_false_iff_not, not_or, Classical.not_not] at h7
      exact ⟨hw.1.1, by omega, h7.2.1, h7.2.2⟩
    · have hw : (0 ≤ x.f0 ∧ x.f0 ≤ 18446744073709551615) ∧ (0 ≤ x.f1 ∧ x.f1 ≤ 18446744073709551615) := wm _ hx
      have h7 := h6 x hx
      unfold fitCell at h7
      rw [and7_u64 hw.1.1 hw.1.2, quo_u64 hw.1.1 (by omega) (by omega)] at h7
      simp only [Bool.or_eq_true, Bool.not_eq_true', not_or, bne_iff_ne, beq_iff_eq, Classical.not_not, Bool.not_eq_false] at h7
      exact ⟨hw.1.1, by omega, h7.1.2, by omega, by omega, h7.1.1⟩
  · intro h
    refine ⟨h.lr, h.mr, h.ln, h.mn, fun x hx => ?_, fun x hx => ?_⟩
    · have hw : (0 ≤ x.f0 ∧ x.f0 ≤ 18446744073709551615) ∧ (-9223372036854775808 ≤ x.f1 ∧ x.f1 ≤ 9223372036854775807) := wl _ hx
      have := h.lp x hx
      unfold fitMap
      rw [badProt_iff hw.2.1 hw.2.2]
      simp only [Bool.or_eq_true, decide_eq_true_eq, Bool.not_eq_true', decide_eq_false_iff_not, not_or, Classical.not_not]
      exact ⟨by omega, this.2.2⟩
    · have hw : (0 ≤ x.f0 ∧ x.f0 ≤ 18446744073709551615) ∧ (0 ≤ x.f1 ∧ x.f1 ≤ 18446744073709551615) := wm _ hx
      have := h.mp x hx
      unfold fitCell
      rw [and7_u64 hw.1.1 hw.1.2, quo_u64 hw.1.1 (by omega) (by omega)]
      simp only [Bool.or_eq_true, Bool.not_eq_true', not_or, bne_iff_ne, beq_iff_eq, Classical.not_not, Bool.not_eq_false]
      exact ⟨⟨this.2.2.2.2.2, this.2.2.1⟩, by omega⟩
theorem FitH.wl {l : List SM} {m : List SC} (h : FitH l m) : ∀ x ∈ l, wfM x := fun x hx => by
  have := h.lp x hx
  exact ⟨⟨this.1, by omega⟩, ⟨by omega, by omega⟩⟩
theorem FitH.wm {l : List SM} {m : List SC} (h : FitH l m) : ∀ x ∈ m, wfC x := fun x hx => by
  have := h.mp x hx
  exact ⟨⟨this.1, by omega⟩, ⟨by omega, by omega⟩⟩
theorem FitH.fitR {l : List SM} {m : List SC} (h : FitH l m) : fitR l m = true := (fitR_iff h.wl h.wm).2 h
def eqL {α : Type} (p : α → α → Bool) : List α → List α → Bool
  | [], [] => true
  | x :: l, y :: m => p x y && eqL p l m
  | _, _ => false
theorem eqL_refl {α : Type} {p : α → α → Bool} (h : ∀ x, p x x = true) : ∀ l : List α, eqL p l l = true
  | [] => rfl
  | x :: l => by
    unfold eqL
    rw [h x, eqL_refl h l]
    rfl
theorem eqL_length {α : Type} {p : α → α → Bool} : ∀ {l m : List α}, eqL p l m = true → l.length = m.length
  | [], [], _ => rfl
  | x :: l, y :: m, h => by
    unfold eqL at h
    rw [Bool.and_eq_true] at h
    simp [eqL_length h.2]
  | [], _ :: _, h => by simp [eqL] at h
  | _ :: _, [], h => by simp [eqL] at h
def eqMp (x y : SM) : Bool := (x.f0 == y.f0) && (x.f1 == y.f1)
def eqCl (x y : SC) : Bool := (x.f0 == y.f0) && (x.f1 == y.f1)
def sameS (l : List SM) (m : List SC) (l' : List SM) (m' : List SC) : Bool := eqL eqMp l l' && eqL eqCl m m'
theorem sameS_refl (l : List SM) (m : List SC) : sameS l m l m = true := by
  unfold sameS
  rw [eqL_refl (fun x => by simp [eqMp]), eqL_refl (fun x => by simp [eqCl])]
  rfl
end Go.Proofs.Ytgkjdpdmmlalcaa.F
end
section
namespace Go.Proofs.Ytgkjdpdmmlalcaa.F
open Go.RowKit Go.Shelf Go.Proofs.YtgkjdpdmmlalcaaW.PrintWords Go.Proofs.YtgkjdpdmmlalcaaW.PrintLast Go.Proofs.YtgkjdpdmmlalcaaW.PrintMore
set_option linter.unusedVariables false
set_option linter.unusedSimpArgs false
theorem ref_Same_l1 (l l' : List SM) (m m' : List SC) (e : m.length = m'.length) (hm : m.length ≤ 1000000) : ∀ (k i : Nat), i ≤ m.length → m.length - i < k → ferryref03_Same.l1 k (i : Int) l m l' m' = some (eqL eqCl (m.drop i) (m'.drop i))
  | 0, i, _, h => by omega
  | k + 1, i, hi, h => by
    unfold ferryref03_Same.l1
    by_cases hlt : i < m.length
    · have hw : wrap64 ((i : Int) + 1) = ((i + 1 : Nat) : Int) := by unfold wrap64; omega
      rw [if_pos (by omega), if_pos (by omega), if_pos (by omega), cl_getR hlt, cl_getR (by omega), hw, ref_Same_l1 l l' m m' e hm k (i + 1) hlt (by omega), List.drop_eq_getElem_cons hlt, List.drop_eq_getElem_cons (show i < m'.length by omega)]
      rw [show eqL eqCl (m[i] :: m.drop (i + 1)) (m'[i] :: m'.drop (i + 1)) = (eqCl m[i] m'[i] && eqL eqCl (m.drop (i + 1)) (m'.drop (i + 1))) from rfl]
      unfold eqCl
      cases (m[i].f0 == m'[i].f0) <;> cases (m[i].f1 == m'[i].f1) <;> rfl
    rw [if_neg (by omega), List.drop_eq_nil_of_le (by omega), List.drop_eq_nil_of_le (by omega)]
    rfl
theorem ref_Same_l0 (l l' : List SM) (m m' : List SC) (e0 : l.length = l'.length) (e : m.length = m'.length) (hl : l.length ≤ 1000000) (hm : m.length ≤ 1000000) : ∀ (k i : Nat), i ≤ l.length → (l.length - i) + m.length + 1 < k → ferryref03_Same.l0 k (i : Int) l m l' m' = some (eqL eqMp (l.drop i) (l'.drop i) && eqL eqCl m m')
  | 0, i, _, h => by omega
  | k + 1, i, hi, h => by
    unfold ferryref03_Same.l0
    by_cases hlt : i < l.length
    · have hw : wrap64 ((i : Int) + 1) = ((i + 1 : Nat) : Int) := by unfold wrap64; omega
      rw [if_pos (by omega), if_pos (by omega), if_pos (by omega), mp_getR hlt, mp_getR (by omega), hw, ref_Same_l0 l l' m m' e0 e hl hm k (i + 1) hlt (by omega), List.drop_eq_getElem_cons hlt, List.drop_eq_getElem_cons (show i < l'.length by omega)]
      rw [show eqL eqMp (l[i] :: l.drop (i + 1)) (l'[i] :: l'.drop (i + 1)) = (eqMp l[i] l'[i] && eqL eqMp (l.drop (i + 1)) (l'.drop (i + 1))) from rfl]
      unfold eqMp
      cases (l[i].f0 == l'[i].f0) <;> cases (l[i].f1 == l'[i].f1) <;> rfl
    rw [if_neg (by omega), List.drop_eq_nil_of_le (by omega), List.drop_eq_nil_of_le (by omega)]
    exact ref_Same_l1 l l' m m' e hm k 0 (Nat.zero_le _) (by omega)
theorem ref_Same (l : List SM) (m : List SC) (l' : List SM) (m' : List SC) (hl : l.length ≤ 1000000) (hm : m.length ≤ 1000000) (k : Nat) (hk : l.length + m.length + 2 < k) : ferryref03_Same.f k l m l' m' = some (sameS l m l' m') := by
  unfold ferryref03_Same.f
  obtain ⟨k, rfl⟩ : ∃ q, k = q + 1 := ⟨k - 1, by omega⟩
  have hne : ∀ b, ferryref03_Same.j0 (k + 1) b l m l' m' = if b = true then some false else ferryref03_Same.l0 k 0 l m l' m' := fun b => rfl
  unfold sameS
  by_cases e : l.length = l'.length
  · rw [if_pos (by omega), hne]
    by_cases e2 : m.length = m'.length
    · rw [bne_eq_false_iff_eq.2 (by omega), if_neg (by decide)]
      exact ref_Same_l0 l l' m m' e e2 hl hm k 0 (Nat.zero_le _) (by omega)
    rw [bne_iff_ne.2 (by omega), if_pos rfl]
    cases h : eqL eqCl m m' with
    | false => rw [Bool.and_false]
    | true => exact absurd (eqL_length h) e2
  rw [if_neg (by omega), hne, if_pos rfl]
  cases h : eqL eqMp l l' with
  | false => rfl
  | true => exact absurd (eqL_length h) e
end Go.Proofs.Ytgkjdpdmmlalcaa.F
end
section
namespace Go.Proofs.Ytgkjdpdmmlalcaa.F
open Go.RowKit Go.Shelf Go.Proofs.YtgkjdpdmmlalcaaW.PrintWords Go.Proofs.YtgkjdpdmmlalcaaW.PrintLast Go.Proofs.YtgkjdpdmmlalcaaW.PrintMore
set_option linter.unusedVariables false
set_option linter.unusedSimpArgs false
def setL (a u : Int) (l : List S88) : List S88 :=
  if has clK a l = true then (if u = 0 then l.eraseIdx (lowB clK a l) else l.set (lowB clK a l) ⟨a, u⟩) else if u = 0 then l else l.take (lowB clK a l) ++ [⟨a, u⟩] ++ l.drop (lowB clK a l)
theorem cl_set1 {w : World} {g cap : Nat} {l : List S88} (h : OwnB clE 88 w g cap l) {i : Nat} (hi : i < l.length) (u : Int) : OwnB clE 88 (w.setCell ⟨g, i * 2 + 1, none⟩ (.int .u64 u)) g cap (l.set i ⟨l[i].f0, u⟩) := by
  have hp := h.put clE_2 i [(⟨l[i].f0, u⟩ : S88)] (by omega) (by have := h.len_le; simp; omega)
  have hc := h.cell clE_2 hi (j := 0) (by omega)
  obtain ⟨cur, h0, h1, h5, h3, h4⟩ := h
  obtain ⟨cur', a0, a1, a2⟩ := setCells_row [Value.int .u64 u] (i * 2 + 1) w cur h0 (by simp; omega)
  obtain ⟨cur2, b0, b1, b2⟩ := setCells_row [Value.int .u64 l[i].f0, Value.int .u64 u] (i * 2) w cur h0 (by simp; omega)
  have hcl : cur.toList.length = cap * 2 := by rw [Array.length_toList, h1]
  have hx : cur.toList[i * 2]'(by omega) = .int .u64 l[i].f0 := by
    rw [sblk_cell h0, Nat.add_zero, ← Array.getElem?_toList, List.getElem?_eq_getElem (by omega)] at hc
    exact Option.some.inj hc
  have he : cur' = cur2 := by
    apply Array.toList_inj.1
    rw [a2, b2, List.take_succ_eq_append_getElem (by omega), hx]
    simp
  have hl : l.set i ⟨l[i].f0, u⟩ = l.take i ++ [(⟨l[i].f0, u⟩ : S88)] ++ l.drop (i + [(⟨l[i].f0, u⟩ : S88)].length) := by
    rw [List.set_eq_take_append_cons_drop, if_pos hi]
    simp
  rw [hl]
  exact hp.move (a0.trans (by rw [he]; exact b0.symm))
end Go.Proofs.Ytgkjdpdmmlalcaa.F
end
section
namespace Go.Proofs.Ytgkjdpdmmlalcaa.F
open Go.RowKit Go.Shelf Go.Proofs.YtgkjdpdmmlalcaaW.PrintWords Go.Proofs.YtgkjdpdmmlalcaaW.PrintLast Go.Proofs.YtgkjdpdmmlalcaaW.PrintMore
set_option linter.unusedVariables false
set_option linter.unusedSimpArgs false
structure HW (w W : World) (m c x y : Value) : Prop where
  bel : Below w.heap.size w W
  h : W.heap[w.heap.size]? = some (.cells #[m, c] 25 (0, 0))
  r : W.heap[w.heap.size + 1]? = some (.cells #[x, y] 25 (0, 0))
  s : w.heap.size + 2 ≤ W.heap.size
theorem HW.first (w : World) (m c x y : Value) : HW w ((w.alloc (.cells #[m, c] 25)).alloc (.cells #[x, y] 25)) m c x y := by
  have s1 : ∀ (W : World) o, (W.alloc o).heap.size = W.heap.size + 1 := fun W o => World.size_alloc W o
  have b1 : Below w.heap.size w (w.alloc (.cells #[m, c] 25)) := (Below.refl _ _).alloc (Nat.le_refl _) _
  have b2 := b1.alloc (by rw [s1]; omega) (.cells #[x, y] 25)
  have n1 := blk_new w (.cells #[m, c] 25)
  have n2 := blk_new (w.alloc (.cells #[m, c] 25)) (.cells #[x, y] 25)
  rw [s1] at n2
  exact ⟨b2, blk_alloc n1 _, n2, by rw [s1, s1]; omega⟩
theorem HW.step {w W W' : World} {m c x y : Value} (h : HW w W m c x y) (hb : Below (w.heap.size + 2) W W') : HW w W' m c x y :=
  ⟨h.bel.trans (hb.mono (by omega)), (hb.block _ (by omega)).trans h.h, (hb.block _ (by omega)).trans h.r, Nat.le_trans h.s hb.size⟩
theorem HW.below {w W W' : World} {m c x y : Value} (h : HW w W m c x y) (hb : Below W.heap.size W W') : HW w W' m c x y := h.step (hb.mono h.s)
theorem HW.set0 {w W : World} {m c x y : Value} (h : HW w W m c x y) (u : Value) : HW w (W.setCell ⟨w.heap.size, 0, none⟩ u) u c x y :=
  have hk : ∀ k, k ≠ w.heap.size → (W.setCell ⟨w.heap.size, 0, none⟩ u).heap[k]? = W.heap[k]? := fun k hk => Below.heap_setCell W _ u k hk
  ⟨h.bel.setCell (Nat.le_refl _) _, blk_put h.h 0 u rfl, (hk _ (by omega)).trans h.r, by simpa [World.setCell] using h.s⟩
theorem HW.set1 {w W : World} {m c x y : Value} (h : HW w W m c x y) (u : Value) : HW w (W.setCell ⟨w.heap.size, 1, none⟩ u) m u x y :=
  have hk : ∀ k, k ≠ w.heap.size → (W.setCell ⟨w.heap.size, 1, none⟩ u).heap[k]? = W.heap[k]? := fun k hk => Below.heap_setCell W _ u k hk
  ⟨h.bel.setCell (Nat.le_refl _) _, blk_put h.h 1 u rfl, (hk _ (by omega)).trans h.r, by simpa [World.setCell] using h.s⟩
theorem HW.setR {w W : World} {m c x y : Value} (h : HW w W m c x y) (u v : Value) : HW w ((W.setCell ⟨w.heap.size + 1, 0, none⟩ u).setCell ⟨w.heap.size + 1, 1, none⟩ v) m c u v :=
  have hk : ∀ k, k ≠ w.heap.size + 1 → ((W.setCell ⟨w.heap.size + 1, 0, none⟩ u).setCell ⟨w.heap.size + 1, 1, none⟩ v).heap[k]? = W.heap[k]? := fun k hk => (Below.heap_setCell _ _ v k hk).trans (Below.heap_setCell W _ u k hk)
  ⟨(h.bel.setCell (by show w.heap.size ≤ w.heap.size + 1; omega) _).setCell (by show w.heap.size ≤ w.heap.size + 1; omega) _, (hk _ (by omega)).trans h.h, blk_put (blk_put h.r 0 u rfl) 1 v rfl, by simpa [World.setCell] using h.s⟩
theorem mixF_get {α : Type} (F : α → α) (l : List α) (i : Nat) (h : i < l.length) (h' : i < ((l.take i).map F ++ l.drop i).length) : ((l.take i).map F ++ l.drop i)[i] = l[i] := by
  rw [List.getElem_append_right (by simp; omega)]
  simp [Nat.min_eq_left (Nat.le_of_lt h)]
theorem mixF_len {α : Type} (F : α → α) (l : List α) (i : Nat) : ((l.take i).map F ++ l.drop i).length = l.length := by
  simp; omega
theorem mixF_set {α : Type} (F : α → α) (l : List α) (i : Nat) (h : i < l.length) : ((l.take i).map F ++ l.drop i).set i (F l[i]) = (l.take (i + 1)).map F ++ l.drop (i + 1) := by
  have hlen : ((l.take i).map F).length = i := by simp; omega
  rw [List.set_append_right _ _ (by omega), hlen, Nat.sub_self, List.drop_eq_getElem_cons h, List.set_cons_zero, List.take_succ_eq_append_getElem h, List.map_append, List.append_assoc]
  rfl
theorem cl_setb {w : World} {g cap : Nat} {l : List S88} {x : S88} {i : Nat} (h : OwnB clE 88 w g cap (l.set i x)) (hi : i < l.length) (u : Int) : OwnB clE 88 (w.setCell ⟨g, i * 2 + 1, none⟩ (.int .u64 u)) g cap (l.set i ⟨x.f0, u⟩) := by
  have h := cl_set1 h (i := i) (by rw [List.length_set]; exact hi) u
  rw [List.getElem_set_self, List.set_set] at h
  exact h
def clrStep (a1 a2 a : Int) (u : Int) (k : Nat) : Int := if withB (IntKind.u64.wrap (a + (k : Int))) a1 a2 = true then Go.bits .andNot .u64 u (IntKind.u64.wrap (255 * 2 ^ (8 * k))) else u
def clrW (a1 a2 a u : Int) (k : Nat) : Int := (List.range k).foldl (clrStep a1 a2 a) u
theorem clrW_succ (a1 a2 a u : Int) (k : Nat) : clrW a1 a2 a u (k + 1) = clrStep a1 a2 a (clrW a1 a2 a u k) k := by
  unfold clrW
  rw [List.range_succ, List.foldl_append]
  rfl
def clrC (a1 a2 : Int) (x : S88) : S88 := ⟨x.f0, clrW a1 a2 x.f0 x.f1 8⟩
set_option maxHeartbeats 4000000 in
theorem cl_zero.calls (x : S88) (w : World) :
    Calls Try.prog 148 #[.agg #[.int .u64 x.f0, .int .u64 x.f1]] w fun e w' => e = .returned (.bool (x.f1 == 0)) ∧ Below w.heap.size w w' := by
  have B0 : Below w.heap.size w (w.alloc (.cells #[.int .u64 x.f0, .int .u64 x.f1] 88)) := (Below.refl _ w).alloc (Nat.le_refl _) _
  have hu := Try.underlying88
  go_enter Try.func148, Try.ntmps148
  go_wp2
  go_ret
  exact ⟨rfl, B0⟩
-- HAND fn=ferry/host.Clear ; rounds=0 ; making=1 ; laid=0 ; share=0_0,0_1 ; views=0,1
def host_Clear.f (l0_0 : List S83) (l0_1 : List S88) (a1 a2 : Int) : Option (List S83 × List S88) :=
  if l0_1.length ≤ 1000000 then some (l0_0, (l0_1.map (clrC a1 a2)).filter (fun x => !(x.f1 == 0))) else none
set_option maxHeartbeats 8000000 in
set_option maxRecDepth 100000 in
theorem host_Clear.calls (P0_0_ : Nat → Prop) (A0_0 : Option Addr) (c0_0 : Nat) (l0_0 : List S83) (P0_1_ : Nat → Prop) (A0_1 : Option Addr) (c0_1 : Nat) (l0_1 : List S88) (a1 a2 : Int) (r1 : List S83) (r2 : List S88) (w : World) (hs0_0 : Kd.V k83 83 w w.heap.size (fun k_ => P0_0_ k_) (.slice A0_0 l0_0.length c0_0) l0_0) (hs0_1 : Kd.V k88 88 w w.heap.size (fun k_ => P0_1_ k_) (.slice A0_1 l0_1.length c0_1) l0_1) (h : host_Clear.f l0_0 l0_1 a1 a2 = some (r1, r2)) :
    Calls Try.prog 117 #[.agg #[.slice A0_0 l0_0.length c0_0, .slice A0_1 l0_1.length c0_1], .int .u64 a1, .int .u64 a2] w fun e w' => ∃ v0_ v1_ : Value, e = .returned (.agg #[v0_, v1_]) ∧ Kd.V k83 83 w' w.heap.size (fun k_ => ((P0_0_ k_ ∨ P0_1_ k_) ∨ w.heap.size ≤ k_)) v0_ r1 ∧ Kd.V k88 88 w' w.heap.size (fun k_ => ((P0_0_ k_ ∨ P0_1_ k_) ∨ w.heap.size ≤ k_)) v1_ r2 ∧ Below w.heap.size w w' := by
  unfold host_Clear.f at h
  split at h
  rotate_left
  · cases h
  rename_i hl
  obtain ⟨rfl, rfl⟩ := Prod.mk.inj (Option.some.inj h)
  clear h
  have VM := Lib.hid hs0_0
  have CC := Lib.hid (Kd.V_reads' hs0_1)
  have U0 := Lib.hid (HW.first w (.slice A0_0 l0_0.length c0_0) (.slice A0_1 l0_1.length c0_1) (.slice none 0 0) (.slice none 0 0))
  clear hs0_0 hs0_1
  have hu := Try.underlying25
  have hu2 := Try.underlying88
  have h1 := (sblk_cell U0.out.h 1).trans rfl
  go_enter Try.func117, Try.ntmps117
  go_wp2_with (fail)
  refine (cl_clone.calls A0_1 c0_1 l0_1 _ (Kd.C_below CC.out.2.2 U0.out.bel) CC.out.2.1 hl).mono ?_
  rintro e w1 ⟨v1, rfl, hR1, hb1⟩
  have U1 := Lib.hid (U0.out.below hb1)
  have S0 := U0.out.s
  clear hb1 h1
  rcases cl_own hR1 with ⟨rfl, rfl⟩ | ⟨g, cap, rfl, hg, ho⟩
  · clear hR1
    go_wp2
    go_loopw [16] (fun t wr => t = .int .i64 0 ∧ wr = w1) (fun _ _ => 0)
    case atStart => exact ⟨rfl, rfl⟩
    case round =>
      obtain ⟨rfl, rfl⟩ := hrel
      have DF := Lib.hid (cl_delfR.calls (fun x => x.f1 == 0) 148 #[] (fun _ _ => by kernel_rfl) (w.heap.size + 2) (fun _ => True) _ [] _ (Kd.R_nil _ _ _ _ _) U1.out.s (by simp) (fun x W _ _ => cl_zero.calls x W))
      skip
      go_wp2_with (fail)
      refine DF.out.mono ?_
      rintro ex w9 ⟨v9, rfl, hR9, hb9⟩
      have U9 := Lib.hid (U1.out.step hb9)
      obtain ⟨A9, c9, rfl⟩ := Kd.R_slice hR9
      have R9 := Lib.hid hR9
      clear hb9 hR9 DF
      have ka0 := (sblk_cell U9.out.h 0).trans rfl
      have ka1 := (sblk_cell U9.out.h 1).trans rfl
      have kz1 := sblk_free U9.out.h 1
      have kr0 := (sblk_cell U9.out.r 0).trans rfl
      have kr1 := (sblk_cell U9.out.r 1).trans rfl
      have ky0 := sblk_free U9.out.r 0
      have ky1 := sblk_free U9.out.r 1
      have U10 := (U9.out.set1 (.slice A9 0 c9)).setR (.slice A0_0 l0_0.length c0_0) (.slice A9 0 c9)
      go_wp2
      have f0 := (sblk_cell U10.r 0).trans rfl
      have f1 := (sblk_cell U10.r 1).trans rfl
      refine bodyPost_ret (v := .agg #[.slice A0_0 l0_0.length c0_0, .slice A9 0 c9]) (by simp [results, Try.results117, go_sem, hu, f0, f1]) rfl ⟨_, _, rfl, view_old VM.out U10.bel (fun k hk => .inl (.inl hk)), ?_, U10.bel⟩
      refine Kd.V_mono (Kd.V_step (Kd.R_V (Kd.R_bound R9.out)) (fun k hk _ => (set_far (by have := hk.2.1; omega)).trans ((set_far (by have := hk.2.1; omega)).trans (set_far (by have := hk.2.1; omega))))) (fun k hk => .inr (by have := hk.2.1; omega))

  · clear hR1
    have hg := Nat.le_trans S0 hg
    have O1 := Lib.hid ho
    go_wp2
    go_loopw [16] (fun t wr => ∃ i : Nat, t = .int .i64 i ∧ i ≤ l0_1.length ∧ Hid (OwnB clE 88 wr g cap ((l0_1.take i).map (clrC a1 a2) ++ l0_1.drop i)) ∧ Hid (HW w wr (.slice A0_0 l0_0.length c0_0) (.slice A0_1 l0_1.length c0_1) (.slice none 0 0) (.slice none 0 0))) (fun t _ => l0_1.length - (intOf t).toNat)
    case atStart => exact ⟨0, rfl, Nat.zero_le _, by simpa using O1, U1⟩
    case round =>
      obtain ⟨i, rfl, hi, O, U⟩ := hrel
      by_cases hlt : i < l0_1.length
      · have hml := mixF_len (clrC a1 a2) l0_1 i
        have hmg := mixF_get (clrC a1 a2) l0_1 i hlt (by rw [hml]; exact hlt)
        have hms := mixF_set (clrC a1 a2) l0_1 i hlt
        have SF := Lib.hid (show ∀ x, clrC a1 a2 x = ⟨x.f0, clrW a1 a2 x.f0 x.f1 8⟩ from fun _ => rfl)
        generalize (l0_1.take i).map (clrC a1 a2) ++ l0_1.drop i = m at O hml hmg hms
        generalize l0_1[i] = x at hmg hms
        obtain ⟨a, u⟩ := x
        have e0 := O.out.cell clE_2 (show i < m.length by rw [hml]; exact hlt) (j := 0) (by omega)
        have e1 := O.out.cell clE_2 (show i < m.length by rw [hml]; exact hlt) (j := 1) (by omega)
        rw [hmg] at e0 e1
        simp only [clE, List.getElem?_cons_zero, List.getElem?_cons_succ, Nat.add_zero] at e0 e1
        have HMS := Lib.hid hms
        have HML := Lib.hid hml
        have O0 : Hid (OwnB clE 88 (wr.alloc (.cells #[.int .u64 a, .int .u64 u] 88)) g cap (m.set i ⟨a, clrW a1 a2 a u 0⟩)) := Lib.hid (by
          have := O.out.below ((Below.refl _ wr).alloc (Nat.le_refl _) (.cells #[.int .u64 a, .int .u64 u] 88))
          rw [show (⟨a, clrW a1 a2 a u 0⟩ : S88) = m[i]'(by rw [hml]; exact hlt) from hmg.symm, List.set_getElem_self]
          exact this)
        have U2 := Lib.hid (U.out.below ((Below.refl _ wr).alloc (Nat.le_refl _) (.cells #[.int .u64 a, .int .u64 u] 88)))
        have N2 := Lib.hid (blk_new wr (.cells #[.int .u64 a, .int .u64 u] 88))
        have HGE := Lib.hid (show g ≠ wr.heap.size from fun e => by have := O.out.lt; omega)
        have SW := Lib.hid U.out.s
        clear hml hmg hms
        go_wp2
        generalize wr.alloc (.cells #[.int .u64 a, .int .u64 u] 88) = w2 at O0 U2 N2 ⊢
        generalize wr.heap.size = e at N2 HGE SW ⊢
        clear e0 e1
        go_loopw [21] (fun t wk => ∃ k : Nat, t = .int .u64 k ∧ k ≤ 8 ∧ Hid (OwnB clE 88 wk g cap (m.set i ⟨a, clrW a1 a2 a u k⟩)) ∧ Hid (HW w wk (.slice A0_0 l0_0.length c0_0) (.slice A0_1 l0_1.length c0_1) (.slice none 0 0) (.slice none 0 0)) ∧ Hid (wk.heap[e]? = some (.cells #[.int .u64 a, .int .u64 u] 88 (0, 0)))) (fun t _ => 8 - (intOf t).toNat)
        case atStart => exact ⟨0, rfl, by omega, O0, U2, N2⟩
        case round =>
          obtain ⟨k, rfl, hk, OK, UK, NK⟩ := hrel
          by_cases hk8 : k < 8
          · have WI := Lib.hid (fun w => host_within.calls _ _ _ _ w (withB_some (IntKind.u64.wrap (a + (k : Int))) a1 a2))
            have n0 := (sblk_cell NK.out 0).trans rfl
            cases hw : withB (IntKind.u64.wrap (a + (k : Int))) a1 a2
            · rw [hw] at WI
              go_wp2_with (go_at_call 125; (with_reducible refine (WI.out _).mono ?_); rintro ex w5 ⟨rfl, ⟨nd, rfl⟩⟩)
              have hb := pw_below_drewN (Below.refl wr.heap.size wr) nd
              refine ⟨⟨k + 1, by go_num, hk8, Lib.hid ?_, Lib.hid (UK.out.below hb), Lib.hid ((hb.block _ (sblk_lt NK.out)).trans NK.out)⟩, by simp [intOf]; omega⟩
              rw [clrW_succ, clrStep, if_neg (by rw [hw]; simp)]
              exact OK.out.below hb
            · rw [hw] at WI
              have hgl : i < (m.set i ⟨a, clrW a1 a2 a u k⟩).length := by rw [List.length_set, HML.out]; exact hlt
              have HGL := Lib.hid hgl
              clear hgl
              go_wp2_with (go_at_call 125; (with_reducible refine (WI.out _).mono ?_); rintro ex w5 ⟨rfl, ⟨nd, rfl⟩⟩; have HB := Lib.hid (pw_below_drewN (Below.refl wr.heap.size wr) nd); have e1 := (OK.out.below HB.out).cell clE_2 HGL.out (j := 1) (by omega); have z1 := (OK.out.below HB.out).free (i * 2 + 1); simp only [List.getElem_set_self, clE, List.getElem?_cons_zero, List.getElem?_cons_succ] at e1)
              have O9 := cl_setb (OK.out.below HB.out) (by rw [HML.out]; exact hlt) (clrW a1 a2 a u (k + 1))
              have U9 := (UK.out.below HB.out)
              have N9 := ((HB.out.block _ (sblk_lt NK.out)).trans NK.out)
              rw [clrW_succ, clrStep, if_pos hw] at O9
              refine ⟨⟨k + 1, by go_num, hk8, Lib.hid ?_, Lib.hid ?_, Lib.hid ?_⟩, by simp [intOf]; omega⟩
              · rw [clrW_succ, clrStep, if_pos hw]
                exact O9
              · exact U9.step ((Below.refl _ _).setCell (p := ⟨g, i * 2 + 1, none⟩) hg _)
              · exact (set_far (Ne.symm HGE.out)).trans N9
          obtain rfl : k = 8 := by omega
          go_wp2
          refine ⟨⟨i + 1, by go_num, hlt, Lib.hid ?_, UK⟩, by simp [intOf]; omega⟩
          have := OK.out
          rw [show (⟨a, clrW a1 a2 a u 8⟩ : S88) = clrC a1 a2 ⟨a, u⟩ from rfl, HMS.out] at this
          exact this
      obtain rfl : i = l0_1.length := by omega
      rw [List.take_length, List.drop_length, List.append_nil] at O
      have hR := cl_R O.out hg
      have HR := Lib.hid hR
      clear hR
      have DF := Lib.hid (cl_delfR.calls (fun x => x.f1 == 0) 148 #[] (fun _ _ => by kernel_rfl) (w.heap.size + 2) (fun _ => True) _ _ _ HR.out U.out.s (by rw [List.length_map]; exact hl) (fun x W _ _ => cl_zero.calls x W))
      rw [List.length_map] at DF
      go_wp2_with (fail)
      refine DF.out.mono ?_
      rintro ex w9 ⟨v9, rfl, hR9, hb9⟩
      have U9 := Lib.hid (U.out.step hb9)
      obtain ⟨A9, c9, rfl⟩ := Kd.R_slice hR9
      have R9 := Lib.hid hR9
      clear hb9 hR9 DF
      have ka0 := (sblk_cell U9.out.h 0).trans rfl
      have ka1 := (sblk_cell U9.out.h 1).trans rfl
      have kz1 := sblk_free U9.out.h 1
      have kr0 := (sblk_cell U9.out.r 0).trans rfl
      have kr1 := (sblk_cell U9.out.r 1).trans rfl
      have ky0 := sblk_free U9.out.r 0
      have ky1 := sblk_free U9.out.r 1
      have U10 := (U9.out.set1 (.slice A9 (List.length (List.filter (fun x => !(x.f1 == 0)) (l0_1.map (clrC a1 a2)))) c9)).setR (.slice A0_0 l0_0.length c0_0) (.slice A9 (List.length (List.filter (fun x => !(x.f1 == 0)) (l0_1.map (clrC a1 a2)))) c9)
      go_wp2
      have f0 := (sblk_cell U10.r 0).trans rfl
      have f1 := (sblk_cell U10.r 1).trans rfl
      refine bodyPost_ret (v := .agg #[.slice A0_0 l0_0.length c0_0, .slice A9 (List.length (List.filter (fun x => !(x.f1 == 0)) (l0_1.map (clrC a1 a2)))) c9]) (by simp [results, Try.results117, go_sem, hu, f0, f1]) rfl ⟨_, _, rfl, view_old VM.out U10.bel (fun k hk => .inl (.inl hk)), ?_, U10.bel⟩
      refine Kd.V_mono (Kd.V_step (Kd.R_V (Kd.R_bound R9.out)) (fun k hk _ => (set_far (by have := hk.2.1; omega)).trans ((set_far (by have := hk.2.1; omega)).trans (set_far (by have := hk.2.1; omega))))) (fun k hk => .inr (by have := hk.2.1; omega))

end Go.Proofs.Ytgkjdpdmmlalcaa.F
end
section
namespace Go.Proofs.Ytgkjdpdmmlalcaa.F
open Go.RowKit Go.Shelf Go.Proofs.YtgkjdpdmmlalcaaW.PrintWords Go.Proofs.YtgkjdpdmmlalcaaW.PrintLast Go.Proofs.YtgkjdpdmmlalcaaW.PrintMore
set_option linter.unusedVariables false
set_option linter.unusedSimpArgs false
def wrongS (a n p : Int) : Bool := decide (n = 0 ∨ a ≥ 1125899906842624 ∨ n > 1125899906842624 - a ∨ p < 0 ∨ p > 7)
theorem host_wrong_spec {a n p : Int} (a0 : 0 ≤ a) (a1 : a ≤ 18446744073709551615) (n0 : 0 ≤ n) (p0 : -9223372036854775808 ≤ p) (p1 : p ≤ 9223372036854775807) : host_wrong.f a n p = some (wrongS a n p) := by
  unfold host_wrong.f host_badProt.f wrongS
  rw [u64w, Option.bind_some, badProt_iff p0 p1]
  by_cases h1 : n = 0
  · rw [if_pos h1, decide_eq_true (by omega)]
  rw [if_neg h1]
  by_cases h2 : a > 1125899906842624
  · rw [if_pos h2, decide_eq_true (by omega)]
  rw [if_neg h2]
  by_cases h3 : n > 1125899906842624 - a
  · rw [if_pos (by omega), decide_eq_true (by omega)]
  rw [if_neg (by omega)]
  by_cases h5 : a = 1125899906842624
  · omega
  congr 1
  by_cases h4 : 0 ≤ p ∧ p ≤ 7
  · rw [decide_eq_true h4, decide_eq_false (by omega)]
    rfl
  rw [decide_eq_false h4, decide_eq_true (by omega)]
  rfl
theorem withB_eq {p a n : Int} (p0 : 0 ≤ p) (p1 : p ≤ 18446744073709551615) (a0 : 0 ≤ a) : withB p a n = decide (a ≤ p ∧ p - a < n) := by
  unfold withB host_within.f
  rw [u64w]
  by_cases h : p ≥ a
  · rw [if_pos h, Option.getD_some]
    exact decide_eq_decide.2 (by omega)
  rw [if_neg h, Option.getD_some, decide_eq_false (by omega)]
def unmapS (l : List SM) (m : List SC) (a n : Int) : List SM × List SC × Int :=
  if wrongS a n 0 = true then (l, m, 22) else (l.filter (fun x => !withB x.f0 a n), m.filter (fun x => !withB (x.f0 / 16384) a n), 0)
theorem filter_cells {m : List SC} (wm : ∀ x ∈ m, wfC x) (a n : Int) : m.filter (fun x => !withB (IntKind.u64.wrap (Int.tdiv x.f0 16384)) a n) = m.filter (fun x => !withB (x.f0 / 16384) a n) := by
  refine List.filter_congr (fun x hx => ?_)
  have hw : (0 ≤ x.f0 ∧ x.f0 ≤ 18446744073709551615) ∧ _ := wm x hx
  rw [quo_u64 hw.1.1 (by omega) (by omega)]
theorem host_Unmap_spec (l : List SM) (m : List SC) (wm : ∀ x ∈ m, wfC x) (hl : l.length ≤ 1000000) (hm : m.length ≤ 1000000) {a n : Int} (a0 : 0 ≤ a) (a1 : a ≤ 18446744073709551615) (n0 : 0 ≤ n) :
    host_Unmap.f l m a n = some (unmapS l m a n) := by
  unfold host_Unmap.f unmapS
  rw [host_wrong_spec a0 a1 n0 (by omega) (by omega), Option.bind_some]
  by_cases h : wrongS a n 0 = true
  · rw [if_pos h, if_pos h]
  rw [if_neg h, if_neg h, if_pos ⟨hl, hm⟩, filter_cells wm]
theorem has_filter {l : List SM} {k : Int} {p : SM → Bool} (h : has mpK k l = true) (hp : ∀ x ∈ l, mpK x = k → p x = true) : has mpK k (l.filter p) = true := by
  obtain ⟨x, hx, he⟩ := List.any_eq_true.1 h
  have he2 := of_decide_eq_true he
  exact List.any_eq_true.2 ⟨x, List.mem_filter.2 ⟨hx, hp x hx he2⟩, he⟩
theorem FitH.unmap {l : List SM} {m : List SC} (h : FitH l m) (a n : Int) : FitH (unmapS l m a n).1 (unmapS l m a n).2.1 := by
  unfold unmapS
  split
  · exact h
  · refine ⟨rises_filter mpK _ h.lr, Nat.le_trans (List.length_filter_le _ _) h.ln, fun x hx => h.lp x (List.mem_filter.1 hx).1, rises_filter clK _ h.mr, Nat.le_trans (List.length_filter_le _ _) h.mn, fun x hx => ?_⟩
    obtain ⟨h1, h2⟩ := List.mem_filter.1 hx
    have h3 := h.mp x h1
    refine ⟨h3.1, h3.2.1, h3.2.2.1, h3.2.2.2.1, h3.2.2.2.2.1, has_filter h3.2.2.2.2.2 (fun y hy he => ?_)⟩
    show (!withB (mpK y) a n) = true
    rw [he]
    exact h2
end Go.Proofs.Ytgkjdpdmmlalcaa.F
end
section
namespace Go.Proofs.Ytgkjdpdmmlalcaa.F
open Go.RowKit Go.Shelf Go.Proofs.YtgkjdpdmmlalcaaW.PrintWords Go.Proofs.YtgkjdpdmmlalcaaW.PrintLast Go.Proofs.YtgkjdpdmmlalcaaW.PrintMore
set_option linter.unusedVariables false
set_option linter.unusedSimpArgs false
theorem moreP_length (a p : Int) (n : Nat) : (moreP a n p).length = n := by
  unfold moreP
  rw [List.length_map, List.length_range]
theorem moreP_succ (a p : Int) (n : Nat) : moreP a (n + 1) p = moreP a n p ++ [⟨IntKind.u64.wrap (a + (n : Int)), p⟩] := by
  unfold moreP
  rw [List.range_succ, List.map_append]
  rfl
def mapS (l : List SM) (m : List SC) (a n p : Int) : List SM × List SC × Int :=
  if wrongS a n p = true then (l, m, 22) else if l.any (fun x => withB x.f0 a n) = true then (l, m, 17) else if n > 64 - (l.length : Int) then (l, m, 105) else (l.take (lowB mpK a l) ++ moreP a n.toNat p ++ l.drop (lowB mpK a l), m, 0)
theorem host_Map_spec (l : List SM) (m : List SC) (wl : ∀ x ∈ l, wfM x) (hl : l.length ≤ 64) (hr : Rises mpK l) {a n p : Int} (a0 : 0 ≤ a) (a1 : a ≤ 18446744073709551615) (n0 : 0 ≤ n) (p0 : -9223372036854775808 ≤ p) (p1 : p ≤ 9223372036854775807) :
    host_Map.f l m a n p = some (mapS l m a n p) := by
  unfold host_Map.f mapS
  rw [host_wrong_spec a0 a1 n0 p0 p1, Option.bind_some]
  by_cases h : wrongS a n p = true
  · rw [if_pos h, if_pos h]
  have hne : n ≠ 0 := fun e => h (by unfold wrongS; exact decide_eq_true (Or.inl e))
  have hw : IntKind.u64.wrap (wrap64 (64 - (l.length : Int))) = 64 - (l.length : Int) := by rw [u64w]; unfold wrap64; omega
  rw [if_neg h, if_neg h, if_pos (by omega), hw]
  split
  · rfl
  · split
    · rfl
    · rw [if_pos ⟨by omega, by omega, (risesB_iff l).2 hr⟩]
theorem has_append {α : Type} {key : α → Int} (k : Int) (l m : List α) : has key k (l ++ m) = (has key k l || has key k m) := by
  unfold has
  rw [List.any_append]
theorem moreP_mem {a p : Int} {n : Nat} (a0 : 0 ≤ a) (h : a + (n : Int) ≤ 18446744073709551616) {x : SM} (hx : x ∈ moreP a n p) : ∃ i : Nat, i < n ∧ x.f0 = a + (i : Int) ∧ x.f1 = p := by
  unfold moreP at hx
  obtain ⟨i, hi, rfl⟩ := List.mem_map.1 hx
  have hi2 := List.mem_range.1 hi
  exact ⟨i, hi2, by show IntKind.u64.wrap _ = _; rw [u64w]; omega, rfl⟩
theorem moreP_rises {a p : Int} (a0 : 0 ≤ a) : ∀ {n : Nat}, a + (n : Int) ≤ 18446744073709551616 → Rises mpK (moreP a n p)
  | 0, _ => trivial
  | n + 1, h => by
    rw [moreP_succ]
    refine rises_append mpK (moreP_rises a0 (by omega)) trivial (fun x hx y hy => ?_)
    obtain ⟨i, hi, hx2, _⟩ := moreP_mem a0 (by omega) hx
    rw [List.mem_singleton] at hy
    subst hy
    show x.f0 < IntKind.u64.wrap _
    rw [u64w, hx2]
    omega
theorem mapS_keys {l : List SM} {a n : Int} (a0 : 0 ≤ a) (wl : ∀ x ∈ l, wfM x) (hany : l.any (fun x => withB x.f0 a n) = false) : ∀ x ∈ l, x.f0 < a ∨ a + n ≤ x.f0 := fun x hx => by
  have h1 := List.any_eq_false.1 hany x hx
  have hw2 : (0 ≤ x.f0 ∧ x.f0 ≤ 18446744073709551615) ∧ _ := wl _ hx
  rw [withB_eq hw2.1.1 hw2.1.2 a0] at h1
  simp at h1
  omega
theorem FitH.map {l : List SM} {m : List SC} (h : FitH l m) {a n p : Int} (a0 : 0 ≤ a) : FitH (mapS l m a n p).1 (mapS l m a n p).2.1 := by
  unfold mapS
  split
  · exact h
  rename_i hw
  split
  · exact h
  rename_i hany
  split
  · exact h
  rename_i hf
  have hw2 : ¬ (n = 0 ∨ a ≥ 1125899906842624 ∨ n > 1125899906842624 - a ∨ p < 0 ∨ p > 7) := by
    unfold wrongS at hw
    simpa only [decide_eq_true_eq] using hw
  have hk := mapS_keys a0 h.wl (Bool.eq_false_iff.2 hany)
  by_cases n0 : 0 < n
  rotate_left
  · have e0 : n.toNat = 0 := by omega
    dsimp only
    rw [e0, show moreP a 0 p = [] from rfl, List.append_nil, List.take_append_drop]
    exact h
  have hn : ((n.toNat : Nat) : Int) = n := by omega
  have hd : ∀ y ∈ l.drop (lowB mpK a l), a + n ≤ y.f0 := fun y hy => by
    have h1 := drop_lowB mpK a h.lr y hy
    have h2 := hk y (List.mem_of_mem_drop hy)
    have h3 : mpK y = y.f0 := rfl
    omega
  refine ⟨?_, ?_, fun x hx => ?_, h.mr, h.mn, fun x hx => ?_⟩
  · refine rises_append mpK (rises_append mpK (rises_left mpK (m := l.drop (lowB mpK a l)) (by rw [List.take_append_drop]; exact h.lr)) (moreP_rises a0 (by omega)) (fun x hx y hy => ?_)) (rises_right mpK (l := l.take (lowB mpK a l)) (by rw [List.take_append_drop]; exact h.lr)) (fun x hx y hy => ?_)
    · have h1 := take_lowB mpK a l x hx
      obtain ⟨i, hi, h2, _⟩ := moreP_mem a0 (by omega) hy
      have h3 : mpK y = y.f0 := rfl
      omega
    · have h1 := hd y hy
      have h3 : mpK y = y.f0 := rfl
      rcases List.mem_append.1 hx with hx | hx
      · have h2 := take_lowB mpK a l x hx
        omega
      · obtain ⟨i, hi, h2, _⟩ := moreP_mem a0 (by omega) hx
        have h4 : mpK x = x.f0 := rfl
        omega
  · have hL := lowB_le mpK a l
    simp only [List.length_append, moreP_length, List.length_take, List.length_drop]
    omega
  · rcases List.mem_append.1 hx with hx | hx
    · rcases List.mem_append.1 hx with hx | hx
      · exact h.lp x (List.mem_of_mem_take hx)
      · obtain ⟨i, hi, h2, h3⟩ := moreP_mem a0 (by omega) hx
        rw [h2, h3]
        omega
    · exact h.lp x (List.mem_of_mem_drop hx)
  · have h1 := h.mp x hx
    refine ⟨h1.1, h1.2.1, h1.2.2.1, h1.2.2.2.1, h1.2.2.2.2.1, ?_⟩
    have h2 := h1.2.2.2.2.2
    rw [← List.take_append_drop (lowB mpK a l) l, has_append] at h2
    rw [has_append, has_append]
    revert h2
    cases has mpK (x.f0 / 16384) (l.take (lowB mpK a l)) <;> cases has mpK (x.f0 / 16384) (l.drop (lowB mpK a l)) <;> simp
end Go.Proofs.Ytgkjdpdmmlalcaa.F
end
section
namespace Go.Proofs.Ytgkjdpdmmlalcaa.F
open Go.RowKit Go.Shelf Go.Proofs.YtgkjdpdmmlalcaaW.PrintWords Go.Proofs.YtgkjdpdmmlalcaaW.PrintLast Go.Proofs.YtgkjdpdmmlalcaaW.PrintMore
set_option linter.unusedVariables false
set_option linter.unusedSimpArgs false
structure StW (w W : World) (m c x y f1 f2 : Value) : Prop where
  bel : Below w.heap.size w W
  h : W.heap[w.heap.size]? = some (.cells #[m, c] 25 (0, 0))
  r : W.heap[w.heap.size + 1]? = some (.cells #[x, y] 25 (0, 0))
  q : W.heap[w.heap.size + 1 + 1]? = some (.cells #[f1, f2] 34 (0, 0))
  s : w.heap.size + 3 ≤ W.heap.size
theorem StW.first (w : World) (m c x y : Value) : StW w (((w.alloc (.cells #[m, c] 25)).alloc (.cells #[x, y] 25)).alloc (.cells #[.int .i64 0, .int .u64 0] 34)) m c x y (.int .i64 0) (.int .u64 0) := by
  have s1 : ∀ (W : World) o, (W.alloc o).heap.size = W.heap.size + 1 := fun W o => World.size_alloc W o
  have b1 : Below w.heap.size w (w.alloc (.cells #[m, c] 25)) := (Below.refl _ _).alloc (Nat.le_refl _) _
  have b2 := b1.alloc (by rw [s1]; omega) (.cells #[x, y] 25)
  have b3 := b2.alloc (by rw [s1, s1]; omega) (.cells #[.int .i64 0, .int .u64 0] 34)
  have n1 := blk_new w (.cells #[m, c] 25)
  have n2 := blk_new (w.alloc (.cells #[m, c] 25)) (.cells #[x, y] 25)
  have n3 := blk_new ((w.alloc (.cells #[m, c] 25)).alloc (.cells #[x, y] 25)) (.cells #[.int .i64 0, .int .u64 0] 34)
  rw [s1] at n2
  rw [s1, s1] at n3
  exact ⟨b3, blk_alloc (blk_alloc n1 _) _, blk_alloc n2 _, n3, by rw [s1, s1, s1]; omega⟩
theorem StW.step {w W W' : World} {m c x y f1 f2 : Value} (h : StW w W m c x y f1 f2) (hb : Below (w.heap.size + 3) W W') : StW w W' m c x y f1 f2 :=
  ⟨h.bel.trans (hb.mono (by omega)), (hb.block _ (by omega)).trans h.h, (hb.block _ (by omega)).trans h.r, (hb.block _ (by omega)).trans h.q, Nat.le_trans h.s hb.size⟩
theorem StW.below {w W W' : World} {m c x y f1 f2 : Value} (h : StW w W m c x y f1 f2) (hb : Below W.heap.size W W') : StW w W' m c x y f1 f2 := h.step (hb.mono h.s)
theorem StW.set1 {w W : World} {m c x y f1 f2 : Value} (h : StW w W m c x y f1 f2) (u : Value) : StW w (W.setCell ⟨w.heap.size, 1, none⟩ u) m u x y f1 f2 :=
  have hk : ∀ k, k ≠ w.heap.size → (W.setCell ⟨w.heap.size, 1, none⟩ u).heap[k]? = W.heap[k]? := fun k hk => Below.heap_setCell W _ u k hk
  ⟨h.bel.setCell (Nat.le_refl _) _, blk_put h.h 1 u rfl, (hk _ (by omega)).trans h.r, (hk _ (by omega)).trans h.q, by simpa [World.setCell] using h.s⟩
theorem StW.setR {w W : World} {m c x y f1 f2 : Value} (h : StW w W m c x y f1 f2) (u v : Value) : StW w ((W.setCell ⟨w.heap.size + 1, 0, none⟩ u).setCell ⟨w.heap.size + 1, 1, none⟩ v) m c u v f1 f2 :=
  have hk : ∀ k, k ≠ w.heap.size + 1 → ((W.setCell ⟨w.heap.size + 1, 0, none⟩ u).setCell ⟨w.heap.size + 1, 1, none⟩ v).heap[k]? = W.heap[k]? := fun k hk => (Below.heap_setCell _ _ v k hk).trans (Below.heap_setCell W _ u k hk)
  ⟨(h.bel.setCell (by show w.heap.size ≤ w.heap.size + 1; omega) _).setCell (by show w.heap.size ≤ w.heap.size + 1; omega) _, (hk _ (by omega)).trans h.h, blk_put (blk_put h.r 0 u rfl) 1 v rfl, (hk _ (by omega)).trans h.q, by simpa [World.setCell] using h.s⟩
theorem rises_pair {α : Type} (key : α → Int) : ∀ l : List α, Rises key l ↔ (l.map key).Pairwise (· < ·)
  | [] => ⟨fun _ => List.Pairwise.nil, fun _ => trivial⟩
  | x :: l => by
    rw [List.map_cons, List.pairwise_cons, ← rises_pair key l]
    refine ⟨fun h => ⟨fun b hb => ?_, rises_tail key h⟩, fun h => rises_cons key (fun y hy => h.1 _ (List.mem_map.2 ⟨y, hy, rfl⟩)) h.2⟩
    obtain ⟨y, hy, rfl⟩ := List.mem_map.1 hb
    exact rises_head key h y hy
theorem setL_length (a u : Int) (l : List S88) : (setL a u l).length ≤ l.length + 1 := by
  have h := lowB_le clK a l
  unfold setL
  split
  · split
    · have := List.length_eraseIdx_le l (lowB clK a l)
      omega
    · rw [List.length_set]; omega
  · split
    · omega
    · simp only [List.length_append, List.length_take, List.length_drop, List.length_cons, List.length_nil]; omega
theorem setL_rises {l : List S88} (h : Rises clK l) (a u : Int) : Rises clK (setL a u l) := by
  have hh := has_lowB clK (k := a) h
  unfold setL
  split
  · split
    · exact (rises_pair clK _).2 (((rises_pair clK _).1 h).sublist ((List.eraseIdx_sublist l _).map clK))
    · rename_i h1 h2
      rw [h1] at hh
      refine (rises_pair clK _).2 ?_
      rw [List.map_set]
      have hi : lowB clK a l < l.length := by
        rcases Nat.lt_or_ge (lowB clK a l) l.length with h | h
        · exact h
        · rw [List.getElem?_eq_none h] at hh
          cases hh
      rw [List.getElem?_eq_getElem hi] at hh
      have hx : clK l[lowB clK a l] = a := of_decide_eq_true hh.symm
      have e : clK ⟨a, u⟩ = (l.map clK)[lowB clK a l]'(by simpa using hi) := by
        rw [List.getElem_map, hx]
      rw [e, List.set_getElem_self]
      exact (rises_pair clK _).1 h
  · split
    · exact h
    · rename_i h1 h2
      have hn : ∀ x ∈ l, clK x ≠ a := fun x hx e => h1 (List.any_eq_true.2 ⟨x, hx, decide_eq_true e⟩)
      have ht : Rises clK (l.take (lowB clK a l)) := by
        have := h
        rw [← List.take_append_drop (lowB clK a l) l] at this
        exact rises_left clK this
      have hd : Rises clK (l.drop (lowB clK a l)) := by
        have := h
        rw [← List.take_append_drop (lowB clK a l) l] at this
        exact rises_right clK this
      rw [List.append_assoc, List.singleton_append]
      refine rises_append clK ht (rises_cons clK (fun y hy => ?_) hd) (fun x hx y hy => ?_)
      · have h3 := drop_lowB clK a h y hy
        have h4 := hn y (List.mem_of_mem_drop hy)
        show a < clK y
        omega
      · have h5 := take_lowB clK a l x hx
        rcases List.mem_cons.1 hy with rfl | hy
        · exact h5
        · have h3 := drop_lowB clK a h y hy
          omega
end Go.Proofs.Ytgkjdpdmmlalcaa.F
end
section
namespace Go.Proofs.Ytgkjdpdmmlalcaa.F
open Go.RowKit Go.Shelf Go.Proofs.YtgkjdpdmmlalcaaW.PrintWords Go.Proofs.YtgkjdpdmmlalcaaW.PrintLast Go.Proofs.YtgkjdpdmmlalcaaW.PrintMore
set_option linter.unusedVariables false
set_option linter.unusedSimpArgs false
theorem p256 (o : Nat) : (2 : Nat) ^ (8 * o) = 256 ^ o := by rw [Nat.pow_mul]
theorem p256_8 : (256 : Nat) ^ 8 = 18446744073709551616 := by decide
theorem p256_le {o : Nat} (h : o ≤ 8) : 256 ^ o ≤ (18446744073709551616 : Nat) := by
  rw [← p256_8]
  exact Nat.pow_le_pow_right (by decide) h
theorem clr64 {w o m : Nat} (hw : w < 256 ^ 8) (ho : o + m ≤ 8) : Go.bits .andNot .u64 (w : Int) (((256 ^ m - 1) * 256 ^ o : Nat) : Int) = ((putIn w o m 0 : Nat) : Int) := by
  have hp : 256 ^ m * 256 ^ o ≤ (18446744073709551616 : Nat) := by rw [← Nat.pow_add]; exact p256_le (by omega)
  have hpm := pos256 m
  have hpo := pos256 o
  have hM : (256 ^ m - 1) * 256 ^ o < 2 ^ 64 := by
    have : (256 ^ m - 1) * 256 ^ o < 256 ^ m * 256 ^ o := Nat.mul_lt_mul_of_pos_right (by omega) hpo
    omega
  have hw2 : w < 2 ^ 64 := by rw [p256_8] at hw; exact hw
  rw [andNot64 w _ hw2 hM]
  have e : w &&& ((256 ^ m - 1) * 256 ^ o) = w / 256 ^ o % 256 ^ m * 256 ^ o := by
    rw [← p256 m, ← p256 o, nat_mask_at]
  have hle : w &&& ((256 ^ m - 1) * 256 ^ o) ≤ w := Nat.and_le_left
  rw [putIn_eq, ← e, Nat.zero_mod, Nat.zero_mul]
  omega
structure CellsH (m : List SC) : Prop where
  mr : Rises clK m
  mp : ∀ x ∈ m, 0 ≤ x.f0 ∧ x.f0 < 18446744073709551616 ∧ x.f0 % 8 = 0 ∧ 0 < x.f1 ∧ x.f1 < 18446744073709551616
theorem FitH.cells {l : List SM} {m : List SC} (h : FitH l m) : CellsH m := ⟨h.mr, fun x hx => by
  have := h.mp x hx
  exact ⟨this.1, this.2.1, this.2.2.1, this.2.2.2.1, this.2.2.2.2.1⟩⟩
theorem look_bd {m : List SC} {b : Int} (hb : 0 < b) (h : ∀ x ∈ m, 0 ≤ x.f1 ∧ x.f1 < b) (a : Int) : 0 ≤ wrd m a ∧ wrd m a < b := by
  unfold wrd
  induction m with
  | nil => exact ⟨Int.le_refl _, hb⟩
  | cons x m ih =>
    unfold look
    split
    · exact h x List.mem_cons_self
    · exact ih (fun y hy => h y (List.mem_cons_of_mem _ hy))
theorem CellsH.bd {m : List SC} (h : CellsH m) (a : Int) : 0 ≤ wrd m a ∧ wrd m a < 18446744073709551616 := look_bd (by omega) (fun x hx => by have := h.mp x hx; omega) a
theorem CellsH.off {m : List SC} (h : CellsH m) {a : Int} (ha : a % 8 ≠ 0) : wrd m a = 0 := look_none clK clV (fun x hx e => ha (by rw [← e]; exact (h.mp x hx).2.2.1))
def wN (m : List SC) (a : Nat) : Nat := (wrd m (a : Int)).toNat
theorem CellsH.wN_lt {m : List SC} (h : CellsH m) (a : Nat) : wN m a < 256 ^ 8 := by
  have := h.bd (a : Int)
  unfold wN
  rw [p256_8]
  omega
theorem has_mem {α : Type} {key : α → Int} {k : Int} {l : List α} : has key k l = true ↔ ∃ x ∈ l, key x = k := by
  unfold has
  rw [List.any_eq_true]
  constructor
  · rintro ⟨x, hx, h⟩
    exact ⟨x, hx, of_decide_eq_true h⟩
  · rintro ⟨x, hx, h⟩
    exact ⟨x, hx, decide_eq_true h⟩
def setF (a u : Int) (m : List SC) : List SC :=
  if u = 0 then m.filter (fun x => !decide (x.f0 = a)) else m.take (lowB clK a m) ++ [⟨a, u⟩] ++ (m.drop (lowB clK a m)).filter (fun x => !decide (x.f0 = a))
theorem drop_ne {m : List SC} {a : Int} (hr : Rises clK m) : (m.drop (lowB clK a m)).filter (fun x => !decide (x.f0 = a)) = if has clK a m = true then m.drop (lowB clK a m + 1) else m.drop (lowB clK a m) := by
  split
  · rename_i h
    obtain ⟨hj, h1, _⟩ := low_hit (val := clV) hr h
    rw [List.drop_eq_getElem_cons hj, List.filter_cons, if_neg (by simp; exact h1), List.filter_eq_self]
    intro x hx
    have h2 : Rises clK (m.drop (lowB clK a m)) := rises_right clK (l := m.take (lowB clK a m)) (by rw [List.take_append_drop]; exact hr)
    rw [List.drop_eq_getElem_cons hj] at h2
    have h3 := rises_head clK h2 x hx
    have h4 : clK x = x.f0 := rfl
    simp
    omega
  · rename_i h
    rw [List.filter_eq_self]
    intro x hx
    have : x.f0 ≠ a := fun e => h (has_mem.2 ⟨x, List.mem_of_mem_drop hx, e⟩)
    simpa using this
theorem take_ne {m : List SC} {a : Int} : (m.take (lowB clK a m)).filter (fun x => !decide (x.f0 = a)) = m.take (lowB clK a m) := by
  rw [List.filter_eq_self]
  intro x hx
  have h1 := take_lowB clK a m x hx
  have h4 : clK x = x.f0 := rfl
  simp
  omega
theorem setL_setF {m : List SC} (hr : Rises clK m) (a u : Int) : setL a u m = setF a u m := by
  unfold setL setF
  by_cases hu : u = 0
  · rw [if_pos hu, if_pos hu, if_pos hu]
    conv => rhs; rw [← List.take_append_drop (lowB clK a m) m]
    rw [List.filter_append, take_ne, drop_ne hr]
    split
    · rw [List.eraseIdx_eq_take_drop_succ]
    · rw [List.take_append_drop]
  rw [if_neg hu, if_neg hu, if_neg hu, drop_ne hr]
  by_cases h : has clK a m = true
  · obtain ⟨hj, h1, _⟩ := low_hit (val := clV) hr h
    rw [if_pos h, if_pos h, List.set_eq_take_append_cons_drop, if_pos hj, List.append_assoc]
    rfl
  rw [if_neg h, if_neg h]
theorem mem_setF {m : List SC} {a u : Int} {x : SC} (h : x ∈ setF a u m) : x ∈ m ∨ (x = ⟨a, u⟩ ∧ u ≠ 0) := by
  unfold setF at h
  split at h
  · exact Or.inl (List.mem_filter.1 h).1
  · rename_i hu
    rcases List.mem_append.1 h with h | h
    · rcases List.mem_append.1 h with h | h
      · exact Or.inl (List.mem_of_mem_take h)
      · exact Or.inr ⟨List.mem_singleton.1 h, hu⟩
    · exact Or.inl (List.mem_of_mem_drop (List.mem_filter.1 h).1)
theorem CellsH.set {m : List SC} (h : CellsH m) {a u : Int} (a0 : 0 ≤ a) (a1 : a < 18446744073709551616) (a8 : a % 8 = 0) (u0 : 0 ≤ u) (u1 : u < 18446744073709551616) : CellsH (setL a u m) := by
  refine ⟨setL_rises h.mr a u, fun x hx => ?_⟩
  rw [setL_setF h.mr] at hx
  rcases mem_setF hx with h1 | ⟨rfl, h2⟩
  · exact h.mp x h1
  · exact ⟨a0, a1, a8, by dsimp only; omega, u1⟩
end Go.Proofs.Ytgkjdpdmmlalcaa.F
end
section
namespace Go.Proofs.Ytgkjdpdmmlalcaa.F
open Go.RowKit Go.Shelf Go.Proofs.YtgkjdpdmmlalcaaW.PrintWords Go.Proofs.YtgkjdpdmmlalcaaW.PrintLast Go.Proofs.YtgkjdpdmmlalcaaW.PrintMore
set_option linter.unusedVariables false
set_option linter.unusedSimpArgs false
def pokeN (m : List SC) (a b : Nat) : List SC := setL ((a - a % 8 : Nat) : Int) ((putIn (wN m (a - a % 8)) (a % 8) 1 b : Nat) : Int) m
theorem CellsH.putW {m : List SC} (h : CellsH m) {a o n v : Nat} (ha : a < 18446744073709551616) (h8 : a % 8 = 0) (ho : o + n ≤ 8) : CellsH (setL (a : Int) ((putIn (wN m a) o n v : Nat) : Int) m) := by
  have := putIn_lt (v := v) (h.wN_lt a) ho
  rw [p256_8] at this
  exact h.set (by omega) (by omega) (by omega) (by omega) (by omega)
theorem CellsH.poke {m : List SC} (h : CellsH m) {a b : Nat} (ha : a < 18446744073709551616) : CellsH (pokeN m a b) := h.putW (by omega) (by omega) (by omega)
def pokes : List SC → Nat → Nat → Nat → List SC
  | m, _, _, 0 => m
  | m, a, v, n + 1 => pokes (pokeN m a (v % 256)) (a + 1) (v / 256) n
theorem CellsH.pokes : ∀ {n : Nat} {m : List SC} (h : CellsH m) {a v : Nat}, a + n ≤ 18446744073709551616 → CellsH (pokes m a v n)
  | 0, _, h, _, _, _ => h
  | n + 1, m, h, a, v, ha => CellsH.pokes (h.poke (by omega)) (by omega)
theorem pokeN_length (m : List SC) (a b : Nat) : (pokeN m a b).length ≤ m.length + 1 := setL_length _ _ _
theorem askS_ok {l : List SM} {a need : Int} (a0 : 0 ≤ a) (a1 : a < 18446744073709551616) : ∀ {r : Nat} {i : Int}, 0 ≤ i → i + (r : Int) ≤ 8 → (askS l a need r i).1 = 0 → askS l a need r i = (0, 0) ∧ ∀ j : Int, i ≤ j → j < i + r → a + j < 18446744073709551616 ∧ faultS l (a + j) need = 0
  | 0, i, _, _, _ => ⟨rfl, fun j h1 h2 => by omega⟩
  | r + 1, i, i0, hb, h => by
    unfold askS at h ⊢
    by_cases h1 : (a + i) % 18446744073709551616 < a
    · rw [if_pos h1] at h
      cases h
    rw [if_neg h1] at h ⊢
    have e : (a + i) % 18446744073709551616 = a + i := by omega
    rw [e] at h ⊢
    by_cases h2 : faultS l (a + i) need = 0
    · rw [if_pos h2] at h ⊢
      obtain ⟨h3, h4⟩ := askS_ok a0 a1 (by omega) (by omega) h
      refine ⟨h3, fun j j1 j2 => ?_⟩
      by_cases hj : j = i
      · subst hj
        exact ⟨by omega, h2⟩
      exact h4 j (by omega) (by omega)
    rw [if_neg h2] at h
    exact absurd h h2
def storeS (l : List SM) (m : List SC) (a n v : Int) : List SM × List SC × Int × Int :=
  if n < 1 ∨ n > 8 then (l, m, 0, 0) else if (askS l a 2 n.toNat 0).1 = 0 then (l, pokes m a.toNat v.toNat n.toNat, 0, 0) else (l, m, (askS l a 2 n.toNat 0).1, (askS l a 2 n.toNat 0).2)
end Go.Proofs.Ytgkjdpdmmlalcaa.F
end
section
namespace Go.Proofs.Ytgkjdpdmmlalcaa.F
open Go.RowKit Go.Shelf Go.Proofs.YtgkjdpdmmlalcaaW.PrintWords Go.Proofs.YtgkjdpdmmlalcaaW.PrintLast Go.Proofs.YtgkjdpdmmlalcaaW.PrintMore
set_option linter.unusedVariables false
set_option linter.unusedSimpArgs false
theorem faultS_has {l : List SM} {a need : Int} (h : faultS l a need = 0) : has mpK (a / 16384) l = true := by
  unfold faultS at h
  by_cases h1 : has mpK (a / 16384) l = true
  · exact h1
  rw [if_neg h1] at h
  omega
theorem mem_setL {m : List SC} (hr : Rises clK m) {a u : Int} {x : SC} (h : x ∈ setL a u m) : x ∈ m ∨ (x = ⟨a, u⟩ ∧ u ≠ 0) := by
  rw [setL_setF hr] at h
  exact mem_setF h
theorem pokes_length : ∀ {n : Nat} (m : List SC) (a v : Nat), (pokes m a v n).length ≤ m.length + n
  | 0, m, _, _ => Nat.le_refl _
  | n + 1, m, a, v => by
    have h1 := pokes_length (n := n) (pokeN m a (v % 256)) (a + 1) (v / 256)
    have h2 := pokeN_length m a (v % 256)
    unfold pokes
    omega
theorem mem_pokes {x : SC} : ∀ {n : Nat} {m : List SC} (h : CellsH m) {a v : Nat}, a + n ≤ 18446744073709551616 → x ∈ pokes m a v n → x ∈ m ∨ ∃ j : Nat, j < n ∧ x.f0 = ((a + j - (a + j) % 8 : Nat) : Int)
  | 0, m, h, a, v, _, hx => Or.inl hx
  | n + 1, m, h, a, v, ha, hx => by
    unfold pokes at hx
    rcases mem_pokes (h.poke (by omega)) (by omega) hx with h1 | ⟨j, hj, h1⟩
    · rcases mem_setL h.mr h1 with h2 | ⟨h2, _⟩
      · exact Or.inl h2
      · exact Or.inr ⟨0, by omega, by rw [h2]; rfl⟩
    · exact Or.inr ⟨j + 1, by omega, by rw [h1]; congr 1; omega⟩
theorem FitH.pokes {l : List SM} {m : List SC} (h : FitH l m) {a n v : Nat} (hn : m.length + n ≤ 131072) (ha : a + n ≤ 18446744073709551616) (hp : ∀ j, j < n → has mpK (((a + j : Nat) : Int) / 16384) l = true) : FitH l (pokes m a v n) := by
  have hc := CellsH.pokes h.cells (v := v) ha
  have hlen := pokes_length (n := n) m a v
  refine ⟨h.lr, h.ln, h.lp, hc.mr, by omega, fun x hx => ?_⟩
  have h1 := hc.mp x hx
  refine ⟨h1.1, h1.2.1, h1.2.2.1, h1.2.2.2.1, h1.2.2.2.2, ?_⟩
  rcases mem_pokes h.cells ha hx with h2 | ⟨j, hj, h2⟩
  · exact (h.mp x h2).2.2.2.2.2
  · rw [h2]
    have h3 := hp j hj
    have e : (((a + j - (a + j) % 8 : Nat) : Int)) / 16384 = ((a + j : Nat) : Int) / 16384 := by omega
    rw [e]
    exact h3
theorem FitH.store {l : List SM} {m : List SC} (h : FitH l m) {a n v : Int} (a0 : 0 ≤ a) (a1 : a < 18446744073709551616) (hm : m.length ≤ 131000) : FitH (storeS l m a n v).1 (storeS l m a n v).2.1 := by
  unfold storeS
  split
  · exact h
  rename_i hn
  split
  · rename_i h3
    obtain ⟨_, h4⟩ := askS_ok a0 a1 (Int.le_refl 0) (by omega) h3
    have h5 := (h4 (n - 1) (by omega) (by omega)).1
    refine h.pokes (by omega) (by omega) (fun j hj => ?_)
    have h6 := faultS_has (h4 (j : Int) (by omega) (by omega)).2
    rwa [show a + (j : Int) = ((a.toNat + j : Nat) : Int) by omega] at h6
  · exact h
end Go.Proofs.Ytgkjdpdmmlalcaa.F
end
section
namespace Go.Proofs.Ytgkjdpdmmlalcaa.F
open Go.RowKit Go.Shelf Go.Proofs.YtgkjdpdmmlalcaaW.PrintWords Go.Proofs.YtgkjdpdmmlalcaaW.PrintLast Go.Proofs.YtgkjdpdmmlalcaaW.PrintMore
set_option linter.unusedVariables false
set_option linter.unusedSimpArgs false
def clearS (m : List SC) (a n : Int) : List SC := (m.map (clrC a n)).filter (fun x => !(x.f1 == 0))
theorem host_Clear_spec (l : List SM) (m : List SC) (hm : m.length ≤ 1000000) (a n : Int) : host_Clear.f l m a n = some (l, clearS m a n) := by
  unfold host_Clear.f
  rw [if_pos hm]
  rfl
theorem clrW_spec {y w : Nat} (hy : y + 8 ≤ 18446744073709551616) (hw : w < 256 ^ 8) (a n : Nat) : ∀ j, j ≤ 8 → ∃ q : Nat, q < 256 ^ 8 ∧ clrW (a : Int) (n : Int) (y : Int) (w : Int) j = (q : Int) ∧ ∀ k, k < 8 → byteAt q k = if k < j ∧ a ≤ y + k ∧ y + k - a < n then 0 else byteAt w k
  | 0, _ => ⟨w, hw, rfl, fun k _ => by rw [if_neg (by omega)]⟩
  | j + 1, hj => by
    obtain ⟨q, hq, e, hb⟩ := clrW_spec hy hw a n j (by omega)
    rw [clrW_succ, e]
    unfold clrStep
    have ea : IntKind.u64.wrap ((y : Int) + (j : Int)) = ((y + j : Nat) : Int) := by rw [u64w]; omega
    rw [ea, withB_eq (by omega) (by omega) (by omega)]
    by_cases hin : (a : Int) ≤ ((y + j : Nat) : Int) ∧ ((y + j : Nat) : Int) - (a : Int) < (n : Int)
    · have hp : 256 ^ 1 * 256 ^ j ≤ (18446744073709551616 : Nat) := by rw [← Nat.pow_add]; exact p256_le (by omega)
      have em : IntKind.u64.wrap (255 * 2 ^ (8 * j)) = (((256 ^ 1 - 1) * 256 ^ j : Nat) : Int) := by
        rw [u64w, show (255 : Int) * 2 ^ (8 * j) = (((256 ^ 1 - 1) * 256 ^ j : Nat) : Int) by rw [← p256 j]; simp]
        have := pos256 j
        omega
      rw [decide_eq_true hin, if_pos rfl, em, clr64 hq (by omega)]
      refine ⟨_, putIn_lt hq (by omega), rfl, fun k hk => ?_⟩
      rw [byteAt_putIn]
      by_cases h1 : k < j
      · rw [if_pos h1, hb k hk]
        by_cases h2 : a ≤ y + k ∧ y + k - a < n
        · rw [if_pos ⟨h1, h2⟩, if_pos ⟨by omega, h2⟩]
        rw [if_neg (by omega), if_neg (by omega)]
      rw [if_neg h1]
      by_cases h3 : k < j + 1
      · have hkj : k = j := by omega
        rw [if_pos h3, if_pos (by omega)]
        unfold byteAt
        simp
      rw [if_neg h3, if_neg (by omega), hb k hk, if_neg (by omega)]
    rw [decide_eq_false hin, if_neg (by decide)]
    refine ⟨q, hq, rfl, fun k hk => ?_⟩
    rw [hb k hk]
    by_cases h1 : k < j ∧ a ≤ y + k ∧ y + k - a < n
    · rw [if_pos h1, if_pos (by omega)]
    rw [if_neg h1]
    by_cases hkj : k = j
    · rw [if_neg (by omega)]
    rw [if_neg (by omega)]
theorem clrC_key (a n : Int) (x : SC) : clK (clrC a n x) = clK x := rfl
theorem clear_rises {m : List SC} (hr : Rises clK m) (a n : Int) : Rises clK (clearS m a n) := rises_filter clK _ (rises_map clK _ (clrC_key a n) hr)
theorem CellsH.clear {m : List SC} (h : CellsH m) (a n : Nat) : CellsH (clearS m (a : Int) (n : Int)) := by
  refine ⟨clear_rises h.mr _ _, fun x hx => ?_⟩
  obtain ⟨h1, h2⟩ := List.mem_filter.1 hx
  obtain ⟨y, hy, rfl⟩ := List.mem_map.1 h1
  have h3 := h.mp y hy
  obtain ⟨Y, hY⟩ : ∃ Y : Nat, y.f0 = (Y : Int) := ⟨y.f0.toNat, by omega⟩
  obtain ⟨W, hW⟩ : ∃ W : Nat, y.f1 = (W : Int) := ⟨y.f1.toNat, by omega⟩
  obtain ⟨q, hq, e, _⟩ := clrW_spec (y := Y) (w := W) (by omega) (by rw [p256_8]; omega) a n 8 (Nat.le_refl _)
  have e2 : (clrC (a : Int) (n : Int) y).f1 = (q : Int) := by
    show clrW _ _ y.f0 y.f1 8 = _
    rw [hY, hW]
    exact e
  rw [p256_8] at hq
  rw [e2] at h2 ⊢
  refine ⟨h3.1, h3.2.1, h3.2.2.1, ?_, by omega⟩
  have : ¬ (q : Int) = 0 := by simpa using h2
  omega
theorem FitH.clear {l : List SM} {m : List SC} (h : FitH l m) {a n : Int} (a0 : 0 ≤ a) (n0 : 0 ≤ n) : FitH l (clearS m a n) := by
  obtain ⟨A, rfl⟩ : ∃ N : Nat, a = (N : Int) := ⟨a.toNat, by omega⟩
  obtain ⟨M, rfl⟩ : ∃ N : Nat, n = (N : Int) := ⟨n.toNat, by omega⟩
  have hc := h.cells.clear A M
  refine ⟨h.lr, h.ln, h.lp, hc.mr, ?_, fun x hx => ?_⟩
  · have h1 : (clearS m (A : Int) (M : Int)).length ≤ m.length := by
      unfold clearS
      refine Nat.le_trans (List.length_filter_le _ _) ?_
      rw [List.length_map]
      exact Nat.le_refl _
    exact Nat.le_trans h1 h.mn
  · have h1 := hc.mp x hx
    refine ⟨h1.1, h1.2.1, h1.2.2.1, h1.2.2.2.1, h1.2.2.2.2, ?_⟩
    obtain ⟨h2, _⟩ := List.mem_filter.1 hx
    obtain ⟨y, hy, rfl⟩ := List.mem_map.1 h2
    exact (h.mp y hy).2.2.2.2.2
end Go.Proofs.Ytgkjdpdmmlalcaa.F
end
section
namespace Go.Proofs.Ytgkjdpdmmlalcaa.F
open Go.RowKit Go.Shelf Go.Proofs.YtgkjdpdmmlalcaaW.PrintWords Go.Proofs.YtgkjdpdmmlalcaaW.PrintLast Go.Proofs.YtgkjdpdmmlalcaaW.PrintMore
set_option linter.unusedVariables false
set_option linter.unusedSimpArgs false
theorem ref_Fit_spec (l : List SM) (m : List SC) (h : l.length ≤ 1000000 ∧ m.length ≤ 1000000) : ferryref03_Fit.f l m = some (fitR l m) := by
  unfold ferryref03_Fit.f
  rw [if_pos h]
end Go.Proofs.Ytgkjdpdmmlalcaa.F
end
section
namespace Go.Proofs.Ytgkjdpdmmlalcaa.F
open Go.RowKit Go.Proofs.YtgkjdpdmmlalcaaW.PrintWords Go.Proofs.YtgkjdpdmmlalcaaW.PrintLast Go.Proofs.YtgkjdpdmmlalcaaW.PrintMore
attribute [local go_sem] max2_int min2_int max_two min_two max_three min_three max_four min_four
set_option linter.unusedVariables false
set_option linter.unusedSimpArgs false

def guest_Place.f (l0_0 : List (S83)) (l0_1 : List (S88)) (a0_2 : Int) (l0_3 : List (S41)) (a1 : Int) : Option (Int) := some (IntKind.u64.wrap (a0_2 + (IntKind.u64.wrap (a1))))
set_option maxHeartbeats 8000000 in
set_option maxRecDepth 100000 in
theorem guest_Place.calls (A0_0 : Option Addr) (c0_0 : Nat) (l0_0 : List (S83)) (A0_1 : Option Addr) (c0_1 : Nat) (l0_1 : List (S88)) (a0_2 : Int) (A0_3 : Option Addr) (c0_3 : Nat) (l0_3 : List (S41)) (a1 : Int) (r : Int) (w : World) (hr0_0 : Kd.C k83 w A0_0 l0_0.length l0_0) (hc0_0 : l0_0.length ≤ c0_0) (hr0_1 : Kd.C k88 w A0_1 l0_1.length l0_1) (hc0_1 : l0_1.length ≤ c0_1) (hr0_3 : Kd.C k41 w A0_3 l0_3.length l0_3) (hc0_3 : l0_3.length ≤ c0_3) (h : guest_Place.f l0_0 l0_1 a0_2 l0_3 a1 = some r) :
    Calls Try.prog 75 #[.agg #[.slice A0_0 l0_0.length c0_0, .slice A0_1 l0_1.length c0_1, .int .u64 a0_2, .slice A0_3 l0_3.length c0_3], .int .u32 a1] w fun e w' => e = .returned (.int .u64 r) ∧ Below w.heap.size w w' := by
  have hu29 := Try.underlying29
  have HR0_0 := Aside0.mk hr0_0
  have HC0_0 := Aside0.mk hc0_0
  clear hr0_0 hc0_0
  have HR0_1 := Aside0.mk hr0_1
  have HC0_1 := Aside0.mk hc0_1
  clear hr0_1 hc0_1
  have HR0_3 := Aside0.mk hr0_3
  have HC0_3 := Aside0.mk hc0_3
  clear hr0_3 hc0_3
  have HB := Aside0.mk (Below.refl w.heap.size w)
  have H : (some (IntKind.u64.wrap (a0_2 + (IntKind.u64.wrap (a1))))) = some r := h
  clear h
  obtain rfl := Option.some.inj H
  go_enter Try.func75, Try.ntmps75
  go_wp2_with (first | ((with_reducible refine gate_dst (N := 2) rfl ?_); refine bE_ 2 #[.slice A0_0 l0_0.length c0_0, .slice A0_1 l0_1.length c0_1, .int .u64 a0_2, .slice A0_3 l0_3.length c0_3] 29 ?_; intro gb126 hg w3 hbox hb; have BK126 := Aside0.mk hbox; have GW126 := geT_ w.heap.size hg; have GE126 := geT_ w.heap.size hg; replace HB := hB_ hb; clear hb hbox hg; obtain ⟨hcz4_0, hcz4_1, hcz4_2, hcz4_3, hfz4_0, hfz4_1, hfz4_2, hfz4_3⟩ := b4_ BK126.out))
  go_ret
  exact ⟨r3_, beT_⟩

end Go.Proofs.Ytgkjdpdmmlalcaa.F
end
section
namespace Go.Proofs.Ytgkjdpdmmlalcaa.F
open Go.RowKit Go.Proofs.YtgkjdpdmmlalcaaW.PrintWords Go.Proofs.YtgkjdpdmmlalcaaW.PrintLast Go.Proofs.YtgkjdpdmmlalcaaW.PrintMore
attribute [local go_sem] max2_int min2_int max_two min_two max_three min_three max_four min_four
set_option linter.unusedVariables false
set_option linter.unusedSimpArgs false

def guest_hostOf.f (l0_0 : List (S83)) (l0_1 : List (S88)) (a0_2 : Int) (l0_3 : List (S41)) (a1 : Int) : Option (Int) := (guest_Place.f l0_0 l0_1 a0_2 l0_3 ((a1 * 4096) % 4294967296)).bind fun t660 => (some (IntKind.u64.wrap (Int.tdiv t660 16384)))
set_option maxHeartbeats 8000000 in
set_option maxRecDepth 100000 in
theorem guest_hostOf.calls (A0_0 : Option Addr) (c0_0 : Nat) (l0_0 : List (S83)) (A0_1 : Option Addr) (c0_1 : Nat) (l0_1 : List (S88)) (a0_2 : Int) (A0_3 : Option Addr) (c0_3 : Nat) (l0_3 : List (S41)) (a1 : Int) (r : Int) (w : World) (hr0_0 : Kd.C k83 w A0_0 l0_0.length l0_0) (hc0_0 : l0_0.length ≤ c0_0) (hr0_1 : Kd.C k88 w A0_1 l0_1.length l0_1) (hc0_1 : l0_1.length ≤ c0_1) (hr0_3 : Kd.C k41 w A0_3 l0_3.length l0_3) (hc0_3 : l0_3.length ≤ c0_3) (h : guest_hostOf.f l0_0 l0_1 a0_2 l0_3 a1 = some r) :
    Calls Try.prog 99 #[.agg #[.slice A0_0 l0_0.length c0_0, .slice A0_1 l0_1.length c0_1, .int .u64 a0_2, .slice A0_3 l0_3.length c0_3], .int .u32 a1] w fun e w' => e = .returned (.int .u64 r) ∧ Below w.heap.size w w' := by
  have hu29 := Try.underlying29
  have HR0_0 := Aside0.mk hr0_0
  have HC0_0 := Aside0.mk hc0_0
  clear hr0_0 hc0_0
  have HR0_1 := Aside0.mk hr0_1
  have HC0_1 := Aside0.mk hc0_1
  clear hr0_1 hc0_1
  have HR0_3 := Aside0.mk hr0_3
  have HC0_3 := Aside0.mk hc0_3
  clear hr0_3 hc0_3
  have HB := Aside0.mk (Below.refl w.heap.size w)
  have H : ((guest_Place.f l0_0 l0_1 a0_2 l0_3 ((a1 * 4096) % 4294967296)).bind fun t660 => (some (IntKind.u64.wrap (Int.tdiv t660 16384)))) = some r := h
  clear h
  replace H := Option.bind_eq_some_iff.mp H
  obtain ⟨t660, A30, H⟩ := H
  have A3 := Aside0.mk A30
  clear A30
  obtain rfl := Option.some.inj H
  go_enter Try.func99, Try.ntmps99
  go_wp2_with (first | ((with_reducible refine gate_dst (N := 2) rfl ?_); refine bE_ 2 #[.slice A0_0 l0_0.length c0_0, .slice A0_1 l0_1.length c0_1, .int .u64 a0_2, .slice A0_3 l0_3.length c0_3] 29 ?_; intro gb659 hg w4 hbox hb; have BK659 := Aside0.mk hbox; have GW659 := geT_ w.heap.size hg; have GE659 := geT_ w.heap.size hg; replace HB := hB_ hb; clear hb hbox hg; obtain ⟨hcz5_0, hcz5_1, hcz5_2, hcz5_3, hfz5_0, hfz5_1, hfz5_2, hfz5_3⟩ := b4_ BK659.out) | ((with_reducible refine gate_callee (f := 75) rfl ?_); refine gL_ (some 8) Try.func75 #[.agg #[.slice A0_0 l0_0.length c0_0, .slice A0_1 l0_1.length c0_1, .int .u64 a0_2, .slice A0_3 l0_3.length c0_3], .int .u32 ((a1 * 4096) % 4294967296)] ?_; (with_reducible refine (guest_Place.calls _ _ l0_0 _ _ l0_1 a0_2 _ _ l0_3 ((a1 * 4096) % 4294967296) t660 _ ?side1 ?side2 ?side3 ?side4 ?side5 ?side6 A3.out).mono ?_); (case side1 => exact cT_ (Kd.C_below HR0_0.out HB.out)); (case side2 => exact HC0_0.out); (case side3 => exact cT_ (Kd.C_below HR0_1.out HB.out)); (case side4 => exact HC0_1.out); (case side5 => exact cT_ (Kd.C_below HR0_3.out HB.out)); (case side6 => exact HC0_3.out); rintro e w6 ⟨rfl, hb⟩; refine ⟨_, rfl, ?_⟩; replace BK659 := kB_ BK659 hb; replace HB := hB_ hb; (try clear hb); (try clear hb2); (try clear hk); (try clear hi)))
  go_ret
  exact ⟨r3_, beT_⟩

end Go.Proofs.Ytgkjdpdmmlalcaa.F
end
section
namespace Go.Proofs.Ytgkjdpdmmlalcaa.F
open Go.RowKit Go.Proofs.YtgkjdpdmmlalcaaW.PrintWords Go.Proofs.YtgkjdpdmmlalcaaW.PrintLast Go.Proofs.YtgkjdpdmmlalcaaW.PrintMore
attribute [local go_sem] max2_int min2_int max_two min_two max_three min_three max_four min_four
attribute [local go_sem] u32w
set_option linter.unusedVariables false
set_option linter.unusedSimpArgs false

def guest_used.f (l0_0 : List (S83)) (l0_1 : List (S88)) (a0_2 : Int) (l0_3 : List (S41)) (a1 : Int) : Option (Bool) := (guest_at.f l0_3 ((IntKind.u64.wrap (Int.tdiv (IntKind.u64.wrap ((IntKind.u64.wrap (a1 * 16384)) - a0_2)) 4096)) % 4294967296)).bind fun bt662 => (if bt662.1 < (l0_3.length : Int) then (if 0 ≤ bt662.1 then ((guest_hostOf.f l0_0 l0_1 a0_2 l0_3 ((rd_T41 l0_3 bt662.1).f0)).bind fun t665 => (some (t665 == a1))) else (none)) else (some false))
def guest_used.T3 : Bool × List (List Nat × List Nat) := (true, [([], []), ([], []), ([1], [1]), ([2], [2]), ([0, 3], [0, 3]), ([4], [4]), ([5], [5]), ([5], [5]), ([7, 5], [5, 7]), ([5], [5]), ([8, 9, 5], [5, 8, 9]), ([10, 5], [5, 10]), ([11, 5], [5, 11]), ([6, 12, 5, 5], [5, 6, 12]), ([5], [5]), ([13, 14, 5], [5, 13, 14]), ([5, 15], [5, 15]), ([16, 13, 0, 1, 2, 3, 4, 5, 6, 7, 8, 9, 10, 11, 12, 13, 14, 15, 16], [16])])
def guest_used.B3 : List Nat := [0, 0, 2, 6, 15, 31, 63, 63, 191, 63, 959, 1983, 4031, 8191, 63, 32767, 65535, 131071]
theorem guest_used.tab3 : rtab .any (opsOf Try.f95 3) = guest_used.T3 := by kernel_rfl
theorem guest_used.bits3 : waitsOk guest_used.T3.2 guest_used.B3 = true := by kernel_rfl
set_option maxHeartbeats 8000000 in
set_option maxRecDepth 100000 in
theorem guest_used.calls (A0_0 : Option Addr) (c0_0 : Nat) (l0_0 : List (S83)) (A0_1 : Option Addr) (c0_1 : Nat) (l0_1 : List (S88)) (a0_2 : Int) (A0_3 : Option Addr) (c0_3 : Nat) (l0_3 : List (S41)) (a1 : Int) (r : Bool) (w : World) (hr0_0 : Kd.C k83 w A0_0 l0_0.length l0_0) (hc0_0 : l0_0.length ≤ c0_0) (hr0_1 : Kd.C k88 w A0_1 l0_1.length l0_1) (hc0_1 : l0_1.length ≤ c0_1) (hr0_3 : Kd.C k41 w A0_3 l0_3.length l0_3) (hc0_3 : l0_3.length ≤ c0_3) (h : guest_used.f l0_0 l0_1 a0_2 l0_3 a1 = some r) :
    Calls Try.prog 95 #[.agg #[.slice A0_0 l0_0.length c0_0, .slice A0_1 l0_1.length c0_1, .int .u64 a0_2, .slice A0_3 l0_3.length c0_3], .int .u64 a1] w fun e w' => e = .returned (.bool r) ∧ Below w.heap.size w w' := by
  have hu29 := Try.underlying29
  have HR0_0 := Aside0.mk hr0_0
  have HC0_0 := Aside0.mk hc0_0
  clear hr0_0 hc0_0
  have HR0_1 := Aside0.mk hr0_1
  have HC0_1 := Aside0.mk hc0_1
  clear hr0_1 hc0_1
  have HR0_3 := Aside0.mk hr0_3
  have HC0_3 := Aside0.mk hc0_3
  clear hr0_3 hc0_3
  have HB := Aside0.mk (Below.refl w.heap.size w)
  have H : ((guest_at.f l0_3 ((IntKind.u64.wrap (Int.tdiv (IntKind.u64.wrap ((IntKind.u64.wrap (a1 * 16384)) - a0_2)) 4096)) % 4294967296)).bind fun bt662 => (if bt662.1 < (l0_3.length : Int) then (if 0 ≤ bt662.1 then ((guest_hostOf.f l0_0 l0_1 a0_2 l0_3 ((rd_T41 l0_3 bt662.1).f0)).bind fun t665 => (some (t665 == a1))) else (none)) else (some false))) = some r := h
  clear h
  replace H := Option.bind_eq_some_iff.mp H
  obtain ⟨⟨t662, t663⟩, A30, H⟩ := H
  have A3 := Aside0.mk A30
  clear A30
  by_cases c4 : t662 < (l0_3.length : Int)
  · rw [if_pos c4] at H
    have c4b0 : decide (t662 < (l0_3.length : Int)) = true := decide_eq_true c4
    clear c4
    by_cases c5 : 0 ≤ t662
    · rw [if_pos c5] at H
      have c5b0 : decide (0 ≤ t662) = true := decide_eq_true c5
      clear c5
      replace H := Option.bind_eq_some_iff.mp H
      obtain ⟨t665, A60, H⟩ := H
      have A6 := Aside0.mk A60
      clear A60
      obtain rfl := Option.some.inj H
      go_enter Try.func95, Try.ntmps95
      try go_wp2_with (first | ((with_reducible refine gate_dst (N := 2) rfl ?_); refine bE_ 2 #[.slice A0_0 l0_0.length c0_0, .slice A0_1 l0_1.length c0_1, .int .u64 a0_2, .slice A0_3 l0_3.length c0_3] 29 ?_; intro gb661 hg w7 hbox hb; have BK661 := Aside0.mk hbox; have GW661 := geT_ w.heap.size hg; have GE661 := geT_ w.heap.size hg; replace HB := hB_ hb; clear hb hbox hg; obtain ⟨hcz8_0, hcz8_1, hcz8_2, hcz8_3, hfz8_0, hfz8_1, hfz8_2, hfz8_3⟩ := b4_ BK661.out) | ((with_reducible refine gate_callee (f := 97) rfl ?_); refine gL_ (some 19) Try.func97 #[.slice A0_3 l0_3.length c0_3, .int .u32 ((IntKind.u64.wrap (Int.tdiv (IntKind.u64.wrap ((IntKind.u64.wrap (a1 * 16384)) - a0_2)) 4096)) % 4294967296)] ?_; (with_reducible refine (guest_at.calls _ _ l0_3 ((IntKind.u64.wrap (Int.tdiv (IntKind.u64.wrap ((IntKind.u64.wrap (a1 * 16384)) - a0_2)) 4096)) % 4294967296) t662 t663 _ ?side1 ?side2 A3.out).mono ?_); (case side1 => exact cT_ (Kd.C_below HR0_3.out HB.out)); (case side2 => exact HC0_3.out); rintro e w9 ⟨rfl, hb⟩; refine ⟨_, rfl, ?_⟩; replace BK661 := kB_ BK661 hb; replace HB := hB_ hb; (try clear hb); (try clear hb2); (try clear hk); (try clear hi)))
      replace BK661 := Aside0.mk (blk_drew BK661.out)
      replace HB := Aside0.mk (below_drew1 HB.out)
      have p664 : 0 ≤ (t662 : Int) := dT_
      have q664 : t662 < (l0_3.length : Int) := dT_
      obtain ⟨ad664, e664, hx664_0, hx664_1⟩ := at_T41 HR0_3.out t662 p664 q664
      have hw664_1 := hx664_1
      have hw664_0 := hx664_0
      cases e664
      replace hx664_0 := hX_ hx664_0
      replace hx664_1 := hX_ hx664_1
      replace p664 := eq_true p664
      replace q664 := eq_true q664
      refine start_ (n := 18) (S := fun w' => w'.cell? ⟨gb661, 0, none⟩ = some (.slice A0_0 l0_0.length c0_0) ∧ w'.cell? ⟨gb661, 1, none⟩ = some (.slice A0_1 l0_1.length c0_1) ∧ w'.cell? ⟨gb661, 2, none⟩ = some (.int .u64 a0_2) ∧ w'.cell? ⟨gb661, 3, none⟩ = some (.slice (some ad664) l0_3.length c0_3) ∧ w'.cell? (ad664.add ((t662).toNat * 2)) = some (.int .u32 ((rd_T41 l0_3 t662).f0)) ∧ w'.cell? ⟨(ad664.add ((t662).toNat * 2)).block, (ad664.add ((t662).toNat * 2)).off + 1, none⟩ = some (.int .i64 ((rd_T41 l0_3 t662).f1))) (ds := []) (mb_ 18 0) (by kernel_rfl) rfl rfl ⟨(blk_cell BK661.out 0).trans rfl, (blk_cell BK661.out 1).trans rfl, (blk_cell BK661.out 2).trans rfl, (blk_cell BK661.out 3).trans rfl, ((HB.out.cell (World.block_lt_of_cell? w _ hw664_0)).trans hw664_0), ((HB.out.cell (World.block_lt_of_cell? w _ hw664_1)).trans hw664_1)⟩ (fun hHeld => ?_); refine with_tabW guest_used.tab3 guest_used.bits3 (fun HT_ HW_ => ?_)
      generalize w9.drew = w10 at BK661 HB hx664_0 hx664_1 hHeld ⊢
      refine pS_ 0 22 (mb_ 18 1) ?_
      refine pS_ 1 23 (mb_ 18 3) ?_
      refine t6S_ 2 24 (mb_ 18 7) ?_
      refine pS_ 3 25 (mb_ 18 15) ?_
      refine pS_ 4 26 (mb_ 18 31) ?_
      refine pS_ 5 27 (mb_ 18 63) ?_
      refine pS_ 7 29 (mb_ 18 191) ?_
      refine pS_ 9 31 (mb_ 18 703) ?_
      refine pS_ 14 36 (mb_ 18 17087) ?_
      refine t6S_ 6 28 (mb_ 18 17151) ?_
      refine t6S_ 8 30 (mb_ 18 17407) ?_
      refine pS_ 10 32 (mb_ 18 18431) ?_
      refine pS_ 11 33 (mb_ 18 20479) ?_
      refine t6S_ 12 34 (mb_ 18 24575) ?_
      refine one_ (i := 13) (N := some 35) (mb_ 18 32767) rfl rfl (one_of HT_.out (by kernel_rfl)) (by decide) (fun K hK => ?_)
      refine goes_ Try.func99 (by kernel_rfl) rfl #[.agg #[.slice A0_0 l0_0.length c0_0, .slice A0_1 l0_1.length c0_1, .int .u64 a0_2, .slice (some ad664) l0_3.length c0_3], .int .u32 ((rd_T41 l0_3 t662).f0)] (by rfl) rfl rfl aT_ ?_
      with_reducible refine (guest_hostOf.calls _ _ l0_0 _ _ l0_1 a0_2 _ _ l0_3 ((rd_T41 l0_3 t662).f0) t665 _ ?side1 ?side2 ?side3 ?side4 ?side5 ?side6 A6.out).mono ?_
      (case side1 => exact cT_ (Kd.C_below HR0_0.out HB.out))
      (case side2 => exact HC0_0.out)
      (case side3 => exact cT_ (Kd.C_below HR0_1.out HB.out))
      (case side4 => exact HC0_1.out)
      (case side5 => exact cT_ (Kd.C_below HR0_3.out HB.out))
      (case side6 => exact HC0_3.out)
      rintro e w11 ⟨rfl, hb⟩
      refine ⟨_, rfl, ?_⟩
      replace BK661 := kB_ BK661 hb
      replace HB := hB_ hb
      (try clear hb)
      (try clear hb2)
      (try clear hk)
      (try clear hi)
      refine hK.out _ _ ⟨(blk_cell BK661.out 0).trans rfl, (blk_cell BK661.out 1).trans rfl, (blk_cell BK661.out 2).trans rfl, (blk_cell BK661.out 3).trans rfl, ((HB.out.cell (World.block_lt_of_cell? w _ hw664_0)).trans hw664_0), ((HB.out.cell (World.block_lt_of_cell? w _ hw664_1)).trans hw664_1)⟩ (fun hHeld => ?_)
      clear hK K
      refine nS_ ?_
      refine pS_ 15 37 (mb_ 18 65535) ?_
      refine pS_ 16 38 (mb_ 18 131071) ?_
      refine pS_ 17 4 (mb_ 18 262143) ?_
      refine done_ (done_of HT_.out (by kernel_rfl)) ?_
      try go_wp2
      go_ret
      exact ⟨r3_, beT_⟩
    rw [if_neg c5] at H
    exact absurd H (by simp)
  rw [if_neg c4] at H
  have c4b0 : decide (t662 < (l0_3.length : Int)) = false := decide_eq_false c4
  clear c4
  obtain rfl := Option.some.inj H
  go_enter Try.func95, Try.ntmps95
  try go_wp2_with (first | ((with_reducible refine gate_dst (N := 2) rfl ?_); refine bE_ 2 #[.slice A0_0 l0_0.length c0_0, .slice A0_1 l0_1.length c0_1, .int .u64 a0_2, .slice A0_3 l0_3.length c0_3] 29 ?_; intro gb661 hg w12 hbox hb; have BK661 := Aside0.mk hbox; have GW661 := geT_ w.heap.size hg; have GE661 := geT_ w.heap.size hg; replace HB := hB_ hb; clear hb hbox hg; obtain ⟨hcz13_0, hcz13_1, hcz13_2, hcz13_3, hfz13_0, hfz13_1, hfz13_2, hfz13_3⟩ := b4_ BK661.out) | ((with_reducible refine gate_callee (f := 97) rfl ?_); refine gL_ (some 19) Try.func97 #[.slice A0_3 l0_3.length c0_3, .int .u32 ((IntKind.u64.wrap (Int.tdiv (IntKind.u64.wrap ((IntKind.u64.wrap (a1 * 16384)) - a0_2)) 4096)) % 4294967296)] ?_; (with_reducible refine (guest_at.calls _ _ l0_3 ((IntKind.u64.wrap (Int.tdiv (IntKind.u64.wrap ((IntKind.u64.wrap (a1 * 16384)) - a0_2)) 4096)) % 4294967296) t662 t663 _ ?side1 ?side2 A3.out).mono ?_); (case side1 => exact cT_ (Kd.C_below HR0_3.out HB.out)); (case side2 => exact HC0_3.out); rintro e w14 ⟨rfl, hb⟩; refine ⟨_, rfl, ?_⟩; replace BK661 := kB_ BK661 hb; replace HB := hB_ hb; (try clear hb); (try clear hb2); (try clear hk); (try clear hi)))
  replace BK661 := Aside0.mk (blk_drew BK661.out)
  replace HB := Aside0.mk (below_drew1 HB.out)
  refine start_ (n := 18) (S := fun w' => w'.cell? ⟨gb661, 0, none⟩ = some (.slice A0_0 l0_0.length c0_0) ∧ w'.cell? ⟨gb661, 1, none⟩ = some (.slice A0_1 l0_1.length c0_1) ∧ w'.cell? ⟨gb661, 2, none⟩ = some (.int .u64 a0_2) ∧ w'.cell? ⟨gb661, 3, none⟩ = some (.slice A0_3 l0_3.length c0_3)) (ds := []) (mb_ 18 0) (by kernel_rfl) rfl rfl ⟨(blk_cell BK661.out 0).trans rfl, (blk_cell BK661.out 1).trans rfl, (blk_cell BK661.out 2).trans rfl, (blk_cell BK661.out 3).trans rfl⟩ (fun hHeld => ?_); refine with_tabW guest_used.tab3 guest_used.bits3 (fun HT_ HW_ => ?_)
  generalize w14.drew = w15 at BK661 HB hHeld ⊢
  refine pS_ 0 22 (mb_ 18 1) ?_
  refine pS_ 1 23 (mb_ 18 3) ?_
  refine t4S_ 2 24 (mb_ 18 7) ?_
  refine pS_ 3 25 (mb_ 18 15) ?_
  refine pS_ 4 26 (mb_ 18 31) ?_
  refine pS_ 5 27 (mb_ 18 63) ?_
  refine uS_ 6 28 (mb_ 18 127) ?_
  refine uS_ 7 29 (mb_ 18 255) ?_
  refine uS_ 8 30 (mb_ 18 511) ?_
  refine uS_ 9 31 (mb_ 18 1023) ?_
  refine uS_ 10 32 (mb_ 18 2047) ?_
  refine uS_ 11 33 (mb_ 18 4095) ?_
  refine uS_ 12 34 (mb_ 18 8191) ?_
  refine uS_ 13 35 (mb_ 18 16383) ?_
  refine uS_ 14 36 (mb_ 18 32767) ?_
  refine uS_ 15 37 (mb_ 18 65535) ?_
  refine pS_ 16 38 (mb_ 18 131071) ?_
  refine pS_ 17 4 (mb_ 18 262143) ?_
  refine done_ (done_of HT_.out (by kernel_rfl)) ?_
  try go_wp2
  go_ret
  exact ⟨r3_, beT_⟩

end Go.Proofs.Ytgkjdpdmmlalcaa.F
end
section
namespace Go.Proofs.Ytgkjdpdmmlalcaa.F
open Go.RowKit Go.Shelf Go.Proofs.YtgkjdpdmmlalcaaW.PrintWords Go.Proofs.YtgkjdpdmmlalcaaW.PrintLast Go.Proofs.YtgkjdpdmmlalcaaW.PrintMore
set_option linter.unusedVariables false
set_option linter.unusedSimpArgs false
abbrev SP := S41
abbrev kP := k41
theorem pg_getR {l : List SP} {k : Nat} (h : k < l.length) : rd_T41 l (k : Int) = l[k] := by
  unfold rd_T41
  simp [h]
def hoS (b n : Int) : Int := IntKind.u64.wrap (Int.tdiv (IntKind.u64.wrap (b + (IntKind.u64.wrap ((n * 4096) % 4294967296)))) 16384)
def mappedS (l : List SM) (a : Int) : Int := if has mpK a l = true then prt l a else -1
def reachS (b a : Int) : Bool := decide (IntKind.u64.wrap (a - b) < 4294967296) && decide (a ≥ b)
def usedS (p : List SP) (b a : Int) : Bool :=
  match p[lowB pgK ((IntKind.u64.wrap (Int.tdiv (IntKind.u64.wrap ((IntKind.u64.wrap (a * 16384)) - b)) 4096)) % 4294967296) p]? with
  | none => false
  | some x => hoS b x.f0 == a
def protP (p : List SP) (n : Int) : Int := if has pgK n p = true then look pgK (fun x => x.f1) n p else -1
def lostB (l : List SM) (b : Int) (x : SP) : Bool := mappedS l (hoS b x.f0) != 3
def idleB (p : List SP) (b : Int) (x : SM) : Bool := reachS b (IntKind.u64.wrap (x.f0 * 16384)) && !usedS p b x.f0
def strayB (p : List SP) (b : Int) (x : SC) : Bool := reachS b x.f0 && decide (protP p ((IntKind.u64.wrap (Int.tdiv (IntKind.u64.wrap (x.f0 - b)) 4096)) % 4294967296) < 0)
theorem at_f {p : List SP} (hp : p.length ≤ 1000000) (hr : Rises pgK p) (n : Int) : guest_at.f p n = some (((lowB pgK n p : Nat) : Int), has pgK n p) := by
  unfold guest_at.f
  rw [if_pos ⟨hp, (risesB_iff p).2 hr⟩]
theorem used_f (l : List SM) (m : List SC) (b : Int) {p : List SP} (hp : p.length ≤ 1000000) (hr : Rises pgK p) (a : Int) : guest_used.f l m b p a = some (usedS p b a) := by
  unfold guest_used.f usedS
  rw [at_f hp hr, Option.bind_some]
  generalize lowB pgK ((IntKind.u64.wrap (Int.tdiv (IntKind.u64.wrap ((IntKind.u64.wrap (a * 16384)) - b)) 4096)) % 4294967296) p = i
  dsimp only
  by_cases hi : i < p.length
  · rw [if_pos (by omega), if_pos (by omega), pg_getR hi, List.getElem?_eq_getElem hi]
    rfl
  rw [if_neg (by omega), List.getElem?_eq_none (by omega)]
def gfit_1.T1 : Bool × List (List Nat × List Nat) := (true, [([], []), ([0], [0]), ([], []), ([], []), ([3], [3]), ([2, 4], [2, 4]), ([1, 5, 5], [1, 5]), ([6], [6]), ([7, 6, 0, 1, 2, 3, 4, 5, 6, 7], [7])])
def gfit_1.B1 : List Nat := [0, 1, 0, 0, 8, 28, 63, 127, 255]
theorem gfit_1.bits1 : waitsOk gfit_1.T1.2 gfit_1.B1 = true := by kernel_rfl
end Go.Proofs.Ytgkjdpdmmlalcaa.F
end
section
namespace Go.Proofs.Ytgkjdpdmmlalcaa.F
open Go.RowKit Go.Shelf Go.Proofs.YtgkjdpdmmlalcaaW.PrintWords Go.Proofs.YtgkjdpdmmlalcaaW.PrintLast Go.Proofs.YtgkjdpdmmlalcaaW.PrintMore
set_option linter.unusedVariables false
abbrev kM := k83
abbrev kC := k88
theorem kM_heap : Kd.Heap kM := Kd.heap_iso _ (Kd.heap_pair (Kd.heap_int .u64) (Kd.heap_int .i64))
theorem kC_heap : Kd.Heap kC := Kd.heap_iso _ (Kd.heap_pair (Kd.heap_int .u64) (Kd.heap_int .u64))
def HostV (W : World) (v0 v1 : Value) (l : List SM) (m : List SC) : Prop := SlV kM W v0 l ∧ SlV kC W v1 m
theorem HostV.below {W W' : World} {v0 v1 : Value} {l : List SM} {m : List SC} (h : HostV W v0 v1 l m) (hb : Below W.heap.size W W') : HostV W' v0 v1 l m := ⟨h.1.below hb, h.2.below hb⟩
theorem HostV.len {W : World} {v0 v1 : Value} {l : List SM} {m : List SC} (h : HostV W v0 v1 l m) : l.length ≤ 9223372036854775807 ∧ m.length ≤ 9223372036854775807 := by
  obtain ⟨⟨A, c, rfl, hc, hC⟩, ⟨A', c', rfl, hc', hC'⟩⟩ := h
  exact ⟨Kd.C_max hC, Kd.C_max hC'⟩
def RetH (W : World) (l : List SM) (m : List SC) (f : Value → Value) : Ending → World → Prop := fun e w' => ∃ A c A' c', e = .returned (f (.agg #[.slice A l.length c, .slice A' m.length c'])) ∧ HostV w' (.slice A l.length c) (.slice A' m.length c') l m ∧ Below W.heap.size W w'
theorem RetH.of {W w' : World} {l : List SM} {m : List SC} {f : Value → Value} {v0 v1 : Value} {B B' e1 e2 : Nat} {ok ok' : Nat → Prop} {e : Ending} (he : e = .returned (f (.agg #[v0, v1]))) (h0 : Kd.V kM e1 w' B ok v0 l) (h1 : Kd.V kC e2 w' B' ok' v1 m) (hb : Below W.heap.size W w') : RetH W l m f e w' := by
  obtain ⟨A, c, rfl, hc, hC⟩ := SlV.of_view h0
  obtain ⟨A', c', rfl, hc', hC'⟩ := SlV.of_view h1
  exact ⟨A, c, A', c', he, ⟨SlV.mk hC hc, SlV.mk hC' hc'⟩, hb⟩
section
variable {W : World} {v0 v1 : Value} {l : List SM} {m : List SC} {u0 u1 : Value} {l' : List SM} {m' : List SC}
end
theorem blk_new1 (w : World) (o o' : Obj) : ((w.alloc o).alloc o').heap[w.heap.size + 1]? = some o' := by
  have h := blk_new (w.alloc o) o'
  have e : (w.alloc o).heap.size = w.heap.size + 1 := by
    unfold World.alloc
    exact Array.size_push ..
  rwa [e] at h
def okM (x : SM) : Bool := decide ((0 ≤ x.f0 ∧ x.f0 ≤ 18446744073709551615) ∧ ((-9223372036854775808) ≤ x.f1 ∧ x.f1 ≤ 9223372036854775807))
def okC (x : SC) : Bool := decide ((0 ≤ x.f0 ∧ x.f0 ≤ 18446744073709551615) ∧ (0 ≤ x.f1 ∧ x.f1 ≤ 18446744073709551615))
def okH (l : List SM) (m : List SC) : Bool := l.all okM && m.all okC
theorem okH_wf {l : List SM} {m : List SC} (h : okH l m = true) : (∀ x ∈ l, wfM x) ∧ (∀ x ∈ m, wfC x) := by
  unfold okH at h
  rw [Bool.and_eq_true, List.all_eq_true, List.all_eq_true] at h
  refine ⟨fun x hx => ?_, fun x hx => ?_⟩
  · have := h.1 x hx
    unfold okM at this
    have h9 := of_decide_eq_true this
    exact h9
  · have := h.2 x hx
    unfold okC at this
    have h9 := of_decide_eq_true this
    exact h9
theorem okH_of {l : List SM} {m : List SC} (h : ∀ x ∈ l, wfM x) (h2 : ∀ x ∈ m, wfC x) : okH l m = true := by
  unfold okH
  rw [Bool.and_eq_true, List.all_eq_true, List.all_eq_true]
  refine ⟨fun x hx => ?_, fun x hx => ?_⟩
  · unfold okM
    refine decide_eq_true ?_
    exact h x hx
  · unfold okC
    refine decide_eq_true ?_
    exact h2 x hx
end Go.Proofs.Ytgkjdpdmmlalcaa.F
end
section
namespace Go.Proofs.Ytgkjdpdmmlalcaa.F
open Go.RowKit Go.Shelf Go.Proofs.YtgkjdpdmmlalcaaW.PrintWords Go.Proofs.YtgkjdpdmmlalcaaW.PrintLast Go.Proofs.YtgkjdpdmmlalcaaW.PrintMore
set_option linter.unusedVariables false
set_option linter.unusedSimpArgs false
def badPg (p : List SP) (k : Nat) : Bool :=
  match p[k]? with
  | none => false
  | some x => decide (x.f0 ≥ 1048576) || ((Go.bits .andNot .i64 x.f1 7 != 0) || prevGe pgK p k x.f0)
def fpS (p : List SP) : Bool := !((List.range p.length).any (badPg p))
def gfitB (l : List SM) (m : List SC) (b : Int) (p : List SP) : Bool :=
  fitB l m && (!(Int.tmod b 16384 != 0) && (!decide (b > 4611686018427387904) && (!decide ((p.length : Int) > 256) && (fpS p && (!(p.any (lostB l b)) && (!(l.any (idleB p b)) && !(m.any (strayB p b))))))))
-- HAND fn=ferry/guest.Fit ; rounds=0 ; making=1 ; laid=0
end Go.Proofs.Ytgkjdpdmmlalcaa.F
end
