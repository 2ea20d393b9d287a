import Derived.Test.YtgkjdpdmmlalcaaUZF0
import Derived.Test.YtgkjdpdmmlalcaaUA0
import Derived.Test.YtgkjdpdmmlalcaaUA1HHost0
import Derived.Test.YtgkjdpdmmlalcaaUA2
import Derived.Test.YtgkjdpdmmlalcaaUA3HHost2
import Derived.Test.YtgkjdpdmmlalcaaUA4
import Derived.Test.YtgkjdpdmmlalcaaUA5HHost11
import Derived.Test.YtgkjdpdmmlalcaaUA6
import Derived.Test.YtgkjdpdmmlalcaaUA8
import Derived.Test.YtgkjdpdmmlalcaaUA9FFerryref03Same
section
namespace Go.Proofs.Ytgkjdpdmmlalcaa.F
open Go.RowKit Go.Shelf Go.Proofs.YtgkjdpdmmlalcaaW.PrintWords Go.Proofs.YtgkjdpdmmlalcaaW.PrintLast Go.Proofs.YtgkjdpdmmlalcaaW.PrintMore
set_option linter.unusedVariables false
set_option linter.unusedSimpArgs false
theorem andNot7_i64 {n : Int} (h0 : -9223372036854775808 ≤ n) (h1 : n ≤ 9223372036854775807) : Go.bits .andNot .i64 n 7 = n - n % 8 := by
  have h := bv_andNot (BitVec.ofInt 64 n) (BitVec.ofInt 64 7)
  have e : (BitVec.ofInt 64 n &&& BitVec.ofInt 64 7).toNat = (n % ((2 ^ 64 : Nat) : Int)).toNat % 8 := by
    rw [BitVec.toNat_and, BitVec.toNat_ofInt, show (BitVec.ofInt 64 7).toNat = 2 ^ 3 - 1 from rfl, Nat.and_two_pow_sub_one_eq_mod]
  rw [e, BitVec.toNat_ofInt] at h
  show IntKind.i64.wrap (((BitVec.ofInt 64 n &&& ~~~BitVec.ofInt 64 7).toNat : Nat) : Int) = _
  rw [IntKind.wrap_i64]
  have h3 : ((2 ^ 64 : Nat) : Int) = 18446744073709551616 := rfl
  rw [h3] at h
  omega
theorem badProt_iff {n : Int} (h0 : -9223372036854775808 ≤ n) (h1 : n ≤ 9223372036854775807) : (Go.bits .andNot .i64 n 7 != 0) = !decide (0 ≤ n ∧ n ≤ 7) := by
  rw [andNot7_i64 h0 h1]
  by_cases h : 0 ≤ n ∧ n ≤ 7
  · rw [decide_eq_true h, bne_eq_false_iff_eq.2 (by omega)]
    rfl
  rw [decide_eq_false h, bne_iff_ne.2 (by omega)]
  rfl
theorem rises_of_next {α : Type} {key : α → Int} : ∀ {l : List α}, (∀ i (h : i + 1 < l.length), key (l[i]'(by omega)) < key l[i + 1]) → Rises key l
  | [], _ => trivial
  | [_], _ => trivial
  | x :: y :: l, h => ⟨h 0 (by simp), rises_of_next (l := y :: l) (fun i hi => h (i + 1) (by simpa using hi))⟩
theorem rises_prev {α : Type} {key : α → Int} (l : List α) : Rises key l ↔ ∀ i (h : i < l.length), prevGe key l i (key l[i]) = false := by
  constructor
  · intro hr i hi
    cases i with
    | zero => rfl
    | succ j =>
      rw [prevGe_succ key l j (by omega)]
      have := rises_get key hr j (j + 1) hi (by omega)
      exact decide_eq_false (by omega)
  · intro h
    refine rises_of_next (fun i hi => ?_)
    have h2 := h (i + 1) hi
    rw [prevGe_succ key l i (by omega)] at h2
    have := of_decide_eq_false h2
    omega
structure FitH (l : List SM) (m : List SC) : Prop where
  lr : Rises mpK l
  ln : l.length ≤ 64
  lp : ∀ x ∈ l, 0 ≤ x.f0 ∧ x.f0 < 1125899906842624 ∧ 0 ≤ x.f1 ∧ x.f1 ≤ 7
  mr : Rises clK m
  mn : m.length ≤ 131072
  mp : ∀ x ∈ m, 0 ≤ x.f0 ∧ x.f0 < 18446744073709551616 ∧ x.f0 % 8 = 0 ∧ 0 < x.f1 ∧ x.f1 < 18446744073709551616 ∧ has mpK (x.f0 / 16384) l = true
theorem tmod8 {a : Int} (h : 0 ≤ a) : (Int.tmod a 8 != 0) = !decide (a % 8 = 0) := by
  rw [Int.tmod_eq_emod_of_nonneg h]
  by_cases h2 : a % 8 = 0
  · rw [decide_eq_true h2, bne_eq_false_iff_eq.2 h2]
    rfl
  rw [decide_eq_false h2, bne_iff_ne.2 h2]
  rfl
theorem badM_iff {l : List SM} (wl : ∀ x ∈ l, wfM x) (k : Nat) (hk : k < l.length) : badM l k = false ↔ (l[k].f0 < 1125899906842624 ∧ 0 ≤ l[k].f1 ∧ l[k].f1 ≤ 7) ∧ prevGe mpK l k (mpK l[k]) = false := by
  unfold badM
  rw [List.getElem?_eq_getElem hk]
  simp only [Bool.or_eq_false_iff, decide_eq_false_iff_not]
  constructor
  · rintro ⟨h1, h2, h3, h4⟩
    exact ⟨⟨by omega, by omega, by omega⟩, h4⟩
  · rintro ⟨⟨h1, h2, h3⟩, h4⟩
    exact ⟨by omega, by omega, by omega, h4⟩
theorem badC_iff {l : List SM} {m : List SC} (wm : ∀ x ∈ m, wfC x) (k : Nat) (hk : k < m.length) : badC l m k = false ↔ (m[k].f0 % 8 = 0 ∧ m[k].f1 ≠ 0 ∧ has mpK (m[k].f0 / 16384) l = true) ∧ prevGe clK m k (clK m[k]) = false := by
  have hw := wm _ (List.getElem_mem hk)
  have h0 : 0 ≤ m[k].f0 ∧ m[k].f0 ≤ 18446744073709551615 := hw.1
  unfold badC
  rw [List.getElem?_eq_getElem hk]
  dsimp only
  rw [tmod8 h0.1, quo_u64 h0.1 (by omega) (by omega), placeR_has]
  simp only [Bool.or_eq_false_iff, Bool.not_eq_false', decide_eq_true_eq, beq_eq_false_iff_ne]
  constructor
  · rintro ⟨h1, h2, h3, h4⟩
    exact ⟨⟨h1, h2, h4⟩, h3⟩
  · rintro ⟨⟨h1, h2, h3⟩, h4⟩
    exact ⟨h1, h2, h4, h3⟩
theorem not_any_range {n : Nat} {p : Nat → Bool} : (!((List.range n).any p)) = true ↔ ∀ k, k < n → p k = false := by
  rw [Bool.not_eq_true', List.any_eq_false]
  constructor
  · intro h k hk
    have := h k (List.mem_range.2 hk)
    simpa using this
  · intro h k hk
    rw [h k (List.mem_range.1 hk)]
    simp
theorem fitR_iff {l : List SM} {m : List SC} (wl : ∀ x ∈ l, wfM x) (wm : ∀ x ∈ m, wfC x) : fitR l m = true ↔ FitH l m := by
  unfold fitR
  simp only [Bool.and_eq_true, decide_eq_true_eq]
  rw [not_any_range, not_any_range]
  constructor
  · rintro ⟨h1, h2, h3, h4⟩
    have b1 := fun k hk => (badM_iff wl k hk).1 (h3 k hk)
    have b2 := fun k hk => (badC_iff wm k hk).1 (h4 k hk)
    refine ⟨(rises_prev l).2 (fun i hi => (b1 i hi).2), h1, fun x hx => ?_, (rises_prev m).2 (fun i hi => (b2 i hi).2), h2, fun x hx => ?_⟩
    · obtain ⟨i, hi, rfl⟩ := List.getElem_of_mem hx
      have hw : (0 ≤ l[i].f0 ∧ l[i].f0 ≤ 18446744073709551615) ∧ _ := wl _ hx
      have := (b1 i hi).1
      exact ⟨hw.1.1, this.1, this.2.1, this.2.2⟩
    · obtain ⟨i, hi, rfl⟩ := List.getElem_of_mem hx
      have hw : (0 ≤ m[i].f0 ∧ m[i].f0 ≤ 18446744073709551615) ∧ (0 ≤ m[i].f1 ∧ m[i].f1 ≤ 18446744073709551615) := wm _ hx
      have := (b2 i hi).1
      have h5 := this.2.1
      exact ⟨hw.1.1, by omega, this.1, by omega, by omega, this.2.2⟩
  · intro h
    refine ⟨h.ln, h.mn, fun k hk => (badM_iff wl k hk).2 ?_, fun k hk => (badC_iff wm k hk).2 ?_⟩
    · have := h.lp _ (List.getElem_mem hk)
      exact ⟨⟨this.2.1, this.2.2.1, this.2.2.2⟩, (rises_prev l).1 h.lr k hk⟩
    · have := h.mp _ (List.getElem_mem hk)
      exact ⟨⟨this.2.2.1, by omega, this.2.2.2.2.2⟩, (rises_prev m).1 h.mr k hk⟩
theorem and7_u64 {a : Int} (h0 : 0 ≤ a) (h1 : a ≤ 18446744073709551615) : Go.bits .and .u64 a 7 = a % 8 := mask64 3 (by decide) h0 h1
theorem fitB_iff {l : List SM} {m : List SC} (wl : ∀ x ∈ l, wfM x) (wm : ∀ x ∈ m, wfC x) : fitB l m = true ↔ FitH l m := by
  unfold fitB
  simp only [Bool.and_eq_true, decide_eq_true_eq, Bool.not_eq_true', List.any_eq_false]
  rw [risesB_iff, risesB_iff]
  constructor
  · rintro ⟨h1, h2, h3, h4, h5, h6⟩
    refine ⟨h1, h3, fun x hx => ?_, h2, h4, fun x hx => ?_⟩
    · have hw : (0 ≤ x.f0 ∧ x.f0 ≤ 18446744073709551615) ∧ (-9223372036854775808 ≤ x.f1 ∧ x.f1 ≤ 9223372036854775807) := wl _ hx
      have h7 := h5 x hx
      unfold fitMap at h7
      rw [badProt_iff hw.2.1 hw.2.2] at h7
      simp only [Bool.or_eq_true, decide_eq_true_eq, Bool.not_eq_true', decide_eq_false_iff_not, not_or, Classical.not_not] at h7
      exact ⟨hw.1.1, by omega, h7.2.1, h7.2.2⟩
    · have hw : (0 ≤ x.f0 ∧ x.f0 ≤ 18446744073709551615) ∧ (0 ≤ x.f1 ∧ x.f1 ≤ 18446744073709551615) := wm _ hx
      have h7 := h6 x hx
      unfold fitCell at h7
      rw [and7_u64 hw.1.1 hw.1.2, quo_u64 hw.1.1 (by omega) (by omega)] at h7
      simp only [Bool.or_eq_true, Bool.not_eq_true', not_or, bne_iff_ne, beq_iff_eq, Classical.not_not, Bool.not_eq_false] at h7
      exact ⟨hw.1.1, by omega, h7.1.2, by omega, by omega, h7.1.1⟩
  · intro h
    refine ⟨h.lr, h.mr, h.ln, h.mn, fun x hx => ?_, fun x hx => ?_⟩
    · have hw : (0 ≤ x.f0 ∧ x.f0 ≤ 18446744073709551615) ∧ (-9223372036854775808 ≤ x.f1 ∧ x.f1 ≤ 9223372036854775807) := wl _ hx
      have := h.lp x hx
      unfold fitMap
      rw [badProt_iff hw.2.1 hw.2.2]
      simp only [Bool.or_eq_true, decide_eq_true_eq, Bool.not_eq_true', decide_eq_false_iff_not, not_or, Classical.not_not]
      exact ⟨by omega, this.2.2⟩
    · have hw : (0 ≤ x.f0 ∧ x.f0 ≤ 18446744073709551615) ∧ (0 ≤ x.f1 ∧ x.f1 ≤ 18446744073709551615) := wm _ hx
      have := h.mp x hx
      unfold fitCell
      rw [and7_u64 hw.1.1 hw.1.2, quo_u64 hw.1.1 (by omega) (by omega)]
      simp only [Bool.or_eq_true, Bool.not_eq_true', not_or, bne_iff_ne, beq_iff_eq, Classical.not_not, Bool.not_eq_false]
      exact ⟨⟨this.2.2.2.2.2, this.2.2.1⟩, by omega⟩
theorem FitH.wl {l : List SM} {m : List SC} (h : FitH l m) : ∀ x ∈ l, wfM x := fun x hx => by
  have := h.lp x hx
  exact ⟨⟨this.1, by omega⟩, ⟨by omega, by omega⟩⟩
theorem FitH.wm {l : List SM} {m : List SC} (h : FitH l m) : ∀ x ∈ m, wfC x := fun x hx => by
  have := h.mp x hx
  exact ⟨⟨this.1, by omega⟩, ⟨by omega, by omega⟩⟩
theorem FitH.fitR {l : List SM} {m : List SC} (h : FitH l m) : fitR l m = true := (fitR_iff h.wl h.wm).2 h
def eqL {α : Type} (p : α → α → Bool) : List α → List α → Bool
  | [], [] => true
  | x :: l, y :: m => p x y && eqL p l m
  | _, _ => false
theorem eqL_refl {α : Type} {p : α → α → Bool} (h : ∀ x, p x x = true) : ∀ l : List α, eqL p l l = true
  | [] => rfl
  | x :: l => by
    unfold eqL
    rw [h x, eqL_refl h l]
    rfl
theorem eqL_length {α : Type} {p : α → α → Bool} : ∀ {l m : List α}, eqL p l m = true → l.length = m.length
  | [], [], _ => rfl
  | x :: l, y :: m, h => by
    unfold eqL at h
    rw [Bool.and_eq_true] at h
    simp [eqL_length h.2]
  | [], _ :: _, h => by simp [eqL] at h
  | _ :: _, [], h => by simp [eqL] at h
def eqMp (x y : SM) : Bool := (x.f0 == y.f0) && (x.f1 == y.f1)
def eqCl (x y : SC) : Bool := (x.f0 == y.f0) && (x.f1 == y.f1)
def sameS (l : List SM) (m : List SC) (l' : List SM) (m' : List SC) : Bool := eqL eqMp l l' && eqL eqCl m m'
theorem sameS_refl (l : List SM) (m : List SC) : sameS l m l m = true := by
  unfold sameS
  rw [eqL_refl (fun x => by simp [eqMp]), eqL_refl (fun x => by simp [eqCl])]
  rfl
end Go.Proofs.Ytgkjdpdmmlalcaa.F
end
section
namespace Go.Proofs.Ytgkjdpdmmlalcaa.F
open Go.RowKit Go.Shelf Go.Proofs.YtgkjdpdmmlalcaaW.PrintWords Go.Proofs.YtgkjdpdmmlalcaaW.PrintLast Go.Proofs.YtgkjdpdmmlalcaaW.PrintMore
set_option linter.unusedVariables false
set_option linter.unusedSimpArgs false
theorem ref_Same_l1 (l l' : List SM) (m m' : List SC) (e : m.length = m'.length) (hm : m.length ≤ 1000000) : ∀ (k i : Nat), i ≤ m.length → m.length - i < k → ferryref03_Same.l1 k (i : Int) l m l' m' = some (eqL eqCl (m.drop i) (m'.drop i))
  | 0, i, _, h => by omega
  | k + 1, i, hi, h => by
    unfold ferryref03_Same.l1
    by_cases hlt : i < m.length
    · have hw : wrap64 ((i : Int) + 1) = ((i + 1 : Nat) : Int) := by unfold wrap64; omega
      rw [if_pos (by omega), if_pos (by omega), if_pos (by omega), cl_getR hlt, cl_getR (by omega), hw, ref_Same_l1 l l' m m' e hm k (i + 1) hlt (by omega), List.drop_eq_getElem_cons hlt, List.drop_eq_getElem_cons (show i < m'.length by omega)]
      rw [show eqL eqCl (m[i] :: m.drop (i + 1)) (m'[i] :: m'.drop (i + 1)) = (eqCl m[i] m'[i] && eqL eqCl (m.drop (i + 1)) (m'.drop (i + 1))) from rfl]
      unfold eqCl
      cases (m[i].f0 == m'[i].f0) <;> cases (m[i].f1 == m'[i].f1) <;> rfl
    rw [if_neg (by omega), List.drop_eq_nil_of_le (by omega), List.drop_eq_nil_of_le (by omega)]
    rfl
theorem ref_Same_l0 (l l' : List SM) (m m' : List SC) (e0 : l.length = l'.length) (e : m.length = m'.length) (hl : l.length ≤ 1000000) (hm : m.length ≤ 1000000) : ∀ (k i : Nat), i ≤ l.length → (l.length - i) + m.length + 1 < k → ferryref03_Same.l0 k (i : Int) l m l' m' = some (eqL eqMp (l.drop i) (l'.drop i) && eqL eqCl m m')
  | 0, i, _, h => by omega
  | k + 1, i, hi, h => by
    unfold ferryref03_Same.l0
    by_cases hlt : i < l.length
    · have hw : wrap64 ((i : Int) + 1) = ((i + 1 : Nat) : Int) := by unfold wrap64; omega
      rw [if_pos (by omega), if_pos (by omega), if_pos (by omega), mp_getR hlt, mp_getR (by omega), hw, ref_Same_l0 l l' m m' e0 e hl hm k (i + 1) hlt (by omega), List.drop_eq_getElem_cons hlt, List.drop_eq_getElem_cons (show i < l'.length by omega)]
      rw [show eqL eqMp (l[i] :: l.drop (i + 1)) (l'[i] :: l'.drop (i + 1)) = (eqMp l[i] l'[i] && eqL eqMp (l.drop (i + 1)) (l'.drop (i + 1))) from rfl]
      unfold eqMp
      cases (l[i].f0 == l'[i].f0) <;> cases (l[i].f1 == l'[i].f1) <;> rfl
    rw [if_neg (by omega), List.drop_eq_nil_of_le (by omega), List.drop_eq_nil_of_le (by omega)]
    exact ref_Same_l1 l l' m m' e hm k 0 (Nat.zero_le _) (by omega)
theorem ref_Same (l : List SM) (m : List SC) (l' : List SM) (m' : List SC) (hl : l.length ≤ 1000000) (hm : m.length ≤ 1000000) (k : Nat) (hk : l.length + m.length + 2 < k) : ferryref03_Same.f k l m l' m' = some (sameS l m l' m') := by
  unfold ferryref03_Same.f
  obtain ⟨k, rfl⟩ : ∃ q, k = q + 1 := ⟨k - 1, by omega⟩
  have hne : ∀ b, ferryref03_Same.j0 (k + 1) b l m l' m' = if b = true then some false else ferryref03_Same.l0 k 0 l m l' m' := fun b => rfl
  unfold sameS
  by_cases e : l.length = l'.length
  · rw [if_pos (by omega), hne]
    by_cases e2 : m.length = m'.length
    · rw [bne_eq_false_iff_eq.2 (by omega), if_neg (by decide)]
      exact ref_Same_l0 l l' m m' e e2 hl hm k 0 (Nat.zero_le _) (by omega)
    rw [bne_iff_ne.2 (by omega), if_pos rfl]
    cases h : eqL eqCl m m' with
    | false => rw [Bool.and_false]
    | true => exact absurd (eqL_length h) e2
  rw [if_neg (by omega), hne, if_pos rfl]
  cases h : eqL eqMp l l' with
  | false => rfl
  | true => exact absurd (eqL_length h) e
end Go.Proofs.Ytgkjdpdmmlalcaa.F
end
section
namespace Go.Proofs.Ytgkjdpdmmlalcaa.F
open Go.RowKit Go.Shelf Go.Proofs.YtgkjdpdmmlalcaaW.PrintWords Go.Proofs.YtgkjdpdmmlalcaaW.PrintLast Go.Proofs.YtgkjdpdmmlalcaaW.PrintMore
set_option linter.unusedVariables false
set_option linter.unusedSimpArgs false
def setL (a u : Int) (l : List S88) : List S88 :=
  if has clK a l = true then (if u = 0 then l.eraseIdx (lowB clK a l) else l.set (lowB clK a l) ⟨a, u⟩) else if u = 0 then l else l.take (lowB clK a l) ++ [⟨a, u⟩] ++ l.drop (lowB clK a l)
theorem cl_set1 {w : World} {g cap : Nat} {l : List S88} (h : OwnB clE 88 w g cap l) {i : Nat} (hi : i < l.length) (u : Int) : OwnB clE 88 (w.setCell ⟨g, i * 2 + 1, none⟩ (.int .u64 u)) g cap (l.set i ⟨l[i].f0, u⟩) := by
  have hp := h.put clE_2 i [(⟨l[i].f0, u⟩ : S88)] (by omega) (by have := h.len_le; simp; omega)
  have hc := h.cell clE_2 hi (j := 0) (by omega)
  obtain ⟨cur, h0, h1, h5, h3, h4⟩ := h
  obtain ⟨cur', a0, a1, a2⟩ := setCells_row [Value.int .u64 u] (i * 2 + 1) w cur h0 (by simp; omega)
  obtain ⟨cur2, b0, b1, b2⟩ := setCells_row [Value.int .u64 l[i].f0, Value.int .u64 u] (i * 2) w cur h0 (by simp; omega)
  have hcl : cur.toList.length = cap * 2 := by rw [Array.length_toList, h1]
  have hx : cur.toList[i * 2]'(by omega) = .int .u64 l[i].f0 := by
    rw [sblk_cell h0, Nat.add_zero, ← Array.getElem?_toList, List.getElem?_eq_getElem (by omega)] at hc
    exact Option.some.inj hc
  have he : cur' = cur2 := by
    apply Array.toList_inj.1
    rw [a2, b2, List.take_succ_eq_append_getElem (by omega), hx]
    simp
  have hl : l.set i ⟨l[i].f0, u⟩ = l.take i ++ [(⟨l[i].f0, u⟩ : S88)] ++ l.drop (i + [(⟨l[i].f0, u⟩ : S88)].length) := by
    rw [List.set_eq_take_append_cons_drop, if_pos hi]
    simp
  rw [hl]
  exact hp.move (a0.trans (by rw [he]; exact b0.symm))
set_option maxHeartbeats 8000000 in
set_option maxRecDepth 100000 in
theorem host_set.calls (B : Nat) (ok : Nat → Prop) (v : Value) (l : List S88) (a u : Int) (w : World) (hR : Kd.R k88 88 w B ok v l) (hB : B ≤ w.heap.size) (hl : l.length ≤ 1000000) (hs : Rises clK l) :
    Calls Try.prog 105 #[v, .int .u64 a, .int .u64 u] w fun e w' => ∃ v', e = .returned v' ∧ Kd.R k88 88 w' B (fun _ => True) v' (setL a u l) ∧ Below B w w' := by
  obtain ⟨A, c, rfl, hlc, hC⟩ := Kd.R_reads hR
  have PL := Lib.hid (cl_place.calls 141 set_key.calls (fun _ _ => by kernel_rfl) A c l a w hC hlc hl hs)
  have hlo := lowB_le clK a l
  have hh := has_lowB clK (k := a) hs
  have RR := Lib.hid hR
  have HBB := Lib.hid hB
  unfold setL
  clear hR hs hC hB
  cases hhas : has clK a l
  · rw [hhas] at PL
    rw [if_neg (by simp)]
    clear hh hhas
    generalize lowB clK a l = i at PL hlo ⊢
    by_cases hu : u = 0
    · subst hu
      rw [if_pos rfl]
      go_enter Try.func105, Try.ntmps105
      go_wp2_with (go_at_call 140; (with_reducible refine PL.out.mono ?_); rintro e w1 ⟨rfl, hb⟩)
      go_ret
      exact ⟨_, rfl, Kd.R_mono (Kd.R_below RR.out hb) (fun _ _ => trivial), hb.mono HBB.out⟩
    rw [if_neg hu]
    have hu2 : (u == 0) = false := beq_eq_false_iff_ne.2 hu
    go_enter Try.func105, Try.ntmps105
    go_wp2_with (go_at_call 140; (with_reducible refine PL.out.mono ?_); rintro e w1 ⟨rfl, hb⟩; have R1 := Lib.hid (Kd.R_below RR.out hb); have B1 := Lib.hid hb; clear hb)
    have B2 : Below w1.heap.size w1 (w1.alloc (.cells #[.int .u64 a, .int .u64 u] 88)) := (Below.refl _ w1).alloc (Nat.le_refl _) _
    have OV : OwnB clE 88 (w1.alloc (.cells #[.int .u64 a, .int .u64 u] 88)) w1.heap.size 1 [⟨a, u⟩] := ⟨_, blk_new w1 _, rfl, by omega, by simp, rfl⟩
    have hs1 : (w1.alloc (.cells #[.int .u64 a, .int .u64 u] 88)).heap.size = w1.heap.size + 1 := World.size_alloc _ _
    rcases cl_own R1.out with ⟨hv, hn⟩ | ⟨g, cap, hv, hg, ho⟩
    · subst hn
      obtain rfl : i = 0 := by simpa using hlo
      injection hv with hA _ hcc
      subst hA; subst hcc
      refine (cl_ins_nil.calls w1.heap.size 1 [⟨a, u⟩] _ OV (by simp) (by simp)).mono ?_
      rintro e w2 ⟨g', cap', rfl, h1, h2, h3⟩
      have O2 := Lib.hid h1
      have G2 := Lib.hid (show B ≤ g' by have := B1.out.size; have := HBB.out; omega)
      have B3 := Lib.hid ((B1.out.mono HBB.out).trans ((B2.mono (Nat.le_trans HBB.out B1.out.size)).trans (h3.mono (by have := B1.out.size; have := HBB.out; omega))))
      clear h1 h2 h3 OV B2 hs1
      go_wp2
      go_ret
      exact ⟨_, rfl, cl_R O2.out G2.out, B3.out⟩
    · injection hv with hA _ hcc
      subst hA; subst hcc
      refine (cl_ins.calls g c w1.heap.size 1 i l [⟨a, u⟩] _ (ho.below B2) OV (by have := ho.lt; omega) hl (by simp) (by simp) hlo).mono ?_
      rintro e w2 ⟨g', cap', rfl, h1, h2, h3⟩
      have O2 := Lib.hid h1
      have G2 := Lib.hid (show B ≤ g' by have := B1.out.size; have := HBB.out; rcases h2 with h | h <;> omega)
      have B3 := Lib.hid ((B1.out.mono HBB.out).trans ((B2.mono (Nat.le_trans HBB.out B1.out.size)).trans (below_of_grown (Below.refl _ _) h3 hg (by have := B1.out.size; have := HBB.out; omega))))
      have L2 := Lib.hid (show (l.take i ++ [(⟨a, u⟩ : S88)] ++ l.drop i).length = l.length + [(⟨a, u⟩ : S88)].length by rw [List.length_append, List.length_append, List.length_take, List.length_drop]; omega)
      clear h1 h2 h3 OV B2 hs1 ho hg
      go_wp2
      go_ret
      have hRR := cl_R O2.out G2.out
      rw [L2.out] at hRR
      exact ⟨_, rfl, hRR, B3.out⟩
  · rw [hhas] at PL hh
    rw [if_pos rfl]
    clear hhas
    generalize lowB clK a l = i at PL hlo hh ⊢
    have hi : i < l.length := by
      rcases Nat.lt_or_ge i l.length with h | h
      · exact h
      · rw [List.getElem?_eq_none h] at hh
        cases hh
    rw [List.getElem?_eq_getElem hi] at hh
    have hx : l[i].f0 = a := of_decide_eq_true hh.symm
    clear hh
    rcases cl_own RR.out with ⟨_, h5⟩ | ⟨g, cap, hv, hg, ho⟩
    · subst h5
      simp at hi
    injection hv with hA _ hcc
    subst hA; subst hcc
    have HO := Lib.hid ho
    have HG := Lib.hid hg
    have HX := Lib.hid hx
    clear ho hg hx
    by_cases hu : u = 0
    · subst hu
      rw [if_pos rfl]
      go_enter Try.func105, Try.ntmps105
      go_wp2_with (go_at_call 140; (with_reducible refine PL.out.mono ?_); rintro e w1 ⟨rfl, hb⟩; have O1 := Lib.hid (HO.out.below hb); have B1 := Lib.hid hb; clear hb)
      have hd := cl_del.calls g c i (i + 1) l w1 O1.out hl hi rfl
      rw [show ((i + 1 : Nat) : Int) = (i : Int) + 1 from rfl] at hd
      refine hd.mono ?_
      clear hd
      rintro e w2 ⟨rfl, h1, h2⟩
      have O2 := Lib.hid h1
      have B2 := Lib.hid (below_of_grown (B1.out.mono HBB.out) h2 HG.out (Nat.le_trans HBB.out B1.out.size))
      have L2 := Lib.hid (show (l.eraseIdx i).length = l.length - 1 from List.length_eraseIdx_of_lt hi)
      clear h1 h2
      go_wp2
      go_ret
      have hRR := cl_R O2.out HG.out
      rw [L2.out] at hRR
      exact ⟨_, rfl, hRR, B2.out⟩
    rw [if_neg hu]
    have hu2 : (u == 0) = false := beq_eq_false_iff_ne.2 hu
    go_enter Try.func105, Try.ntmps105
    go_wp2_with (go_at_call 140; (with_reducible refine PL.out.mono ?_); rintro e w1 ⟨rfl, hb⟩; have O1 := Lib.hid (HO.out.below hb); have B1 := Lib.hid hb; clear hb; have e1 := O1.out.cell clE_2 hi (j := 1) (by omega); have z1 := O1.out.free (i * 2 + 1); simp only [clE, List.getElem?_cons_succ, List.getElem?_cons_zero] at e1)
    have h2 := cl_set1 O1.out hi u
    rw [HX.out] at h2
    have hRR := cl_R h2 HG.out
    rw [List.length_set] at hRR
    exact bodyPost_ret (v := .slice (some ⟨g, 0, none⟩) l.length c) (by simp [results, Try.results105, go_sem]) rfl ⟨_, rfl, hRR, (B1.out.mono HBB.out).setCell HG.out _⟩
end Go.Proofs.Ytgkjdpdmmlalcaa.F
end
section
namespace Go.Proofs.Ytgkjdpdmmlalcaa.F
open Go.RowKit Go.Shelf Go.Proofs.YtgkjdpdmmlalcaaW.PrintWords Go.Proofs.YtgkjdpdmmlalcaaW.PrintLast Go.Proofs.YtgkjdpdmmlalcaaW.PrintMore
set_option linter.unusedVariables false
set_option linter.unusedSimpArgs false
structure HW (w W : World) (m c x y : Value) : Prop where
  bel : Below w.heap.size w W
  h : W.heap[w.heap.size]? = some (.cells #[m, c] 25 (0, 0))
  r : W.heap[w.heap.size + 1]? = some (.cells #[x, y] 25 (0, 0))
  s : w.heap.size + 2 ≤ W.heap.size
theorem HW.first (w : World) (m c x y : Value) : HW w ((w.alloc (.cells #[m, c] 25)).alloc (.cells #[x, y] 25)) m c x y := by
  have s1 : ∀ (W : World) o, (W.alloc o).heap.size = W.heap.size + 1 := fun W o => World.size_alloc W o
  have b1 : Below w.heap.size w (w.alloc (.cells #[m, c] 25)) := (Below.refl _ _).alloc (Nat.le_refl _) _
  have b2 := b1.alloc (by rw [s1]; omega) (.cells #[x, y] 25)
  have n1 := blk_new w (.cells #[m, c] 25)
  have n2 := blk_new (w.alloc (.cells #[m, c] 25)) (.cells #[x, y] 25)
  rw [s1] at n2
  exact ⟨b2, blk_alloc n1 _, n2, by rw [s1, s1]; omega⟩
theorem HW.step {w W W' : World} {m c x y : Value} (h : HW w W m c x y) (hb : Below (w.heap.size + 2) W W') : HW w W' m c x y :=
  ⟨h.bel.trans (hb.mono (by omega)), (hb.block _ (by omega)).trans h.h, (hb.block _ (by omega)).trans h.r, Nat.le_trans h.s hb.size⟩
theorem HW.below {w W W' : World} {m c x y : Value} (h : HW w W m c x y) (hb : Below W.heap.size W W') : HW w W' m c x y := h.step (hb.mono h.s)
theorem HW.set1 {w W : World} {m c x y : Value} (h : HW w W m c x y) (u : Value) : HW w (W.setCell ⟨w.heap.size, 1, none⟩ u) m u x y :=
  have hk : ∀ k, k ≠ w.heap.size → (W.setCell ⟨w.heap.size, 1, none⟩ u).heap[k]? = W.heap[k]? := fun k hk => Below.heap_setCell W _ u k hk
  ⟨h.bel.setCell (Nat.le_refl _) _, blk_put h.h 1 u rfl, (hk _ (by omega)).trans h.r, by simpa [World.setCell] using h.s⟩
theorem HW.setR {w W : World} {m c x y : Value} (h : HW w W m c x y) (u v : Value) : HW w ((W.setCell ⟨w.heap.size + 1, 0, none⟩ u).setCell ⟨w.heap.size + 1, 1, none⟩ v) m c u v :=
  have hk : ∀ k, k ≠ w.heap.size + 1 → ((W.setCell ⟨w.heap.size + 1, 0, none⟩ u).setCell ⟨w.heap.size + 1, 1, none⟩ v).heap[k]? = W.heap[k]? := fun k hk => (Below.heap_setCell _ _ v k hk).trans (Below.heap_setCell W _ u k hk)
  ⟨(h.bel.setCell (by show w.heap.size ≤ w.heap.size + 1; omega) _).setCell (by show w.heap.size ≤ w.heap.size + 1; omega) _, (hk _ (by omega)).trans h.h, blk_put (blk_put h.r 0 u rfl) 1 v rfl, by simpa [World.setCell] using h.s⟩
def clrStep (a1 a2 a : Int) (u : Int) (k : Nat) : Int := if withB (IntKind.u64.wrap (a + (k : Int))) a1 a2 = true then Go.bits .andNot .u64 u (IntKind.u64.wrap (255 * 2 ^ (8 * k))) else u
def clrW (a1 a2 a u : Int) (k : Nat) : Int := (List.range k).foldl (clrStep a1 a2 a) u
theorem clrW_succ (a1 a2 a u : Int) (k : Nat) : clrW a1 a2 a u (k + 1) = clrStep a1 a2 a (clrW a1 a2 a u k) k := by
  unfold clrW
  rw [List.range_succ, List.foldl_append]
  rfl
def clrC (a1 a2 : Int) (x : S88) : S88 := ⟨x.f0, clrW a1 a2 x.f0 x.f1 8⟩
end Go.Proofs.Ytgkjdpdmmlalcaa.F
end
section
namespace Go.Proofs.Ytgkjdpdmmlalcaa.F
open Go.RowKit Go.Proofs.YtgkjdpdmmlalcaaW.PrintWords Go.Proofs.YtgkjdpdmmlalcaaW.PrintLast Go.Proofs.YtgkjdpdmmlalcaaW.PrintMore
attribute [local go_sem] max2_int min2_int max_two min_two max_three min_three max_four min_four
set_option linter.unusedVariables false
set_option linter.unusedSimpArgs false

def ferryref03_wrong.f (a0 : Int) (a1 : Int) (a2 : Int) : Option (Bool) := if a1 = 0 then (some true) else (if a0 ≥ 1125899906842624 then (some true) else (if a1 > (IntKind.u64.wrap (1125899906842624 - a0)) then (some true) else (if a2 < 0 then (some true) else (some (decide (a2 > 7))))))
set_option maxHeartbeats 8000000 in
set_option maxRecDepth 100000 in
theorem ferryref03_wrong.calls (a0 : Int) (a1 : Int) (a2 : Int) (r : Bool) (w : World) (h : ferryref03_wrong.f a0 a1 a2 = some r) :
    Calls Try.prog 102 #[.int .u64 a0, .int .u64 a1, .int .i64 a2] w fun e w' => e = .returned (.bool r) ∧ Drawn0 w w' := by
  have H : (if a1 = 0 then (some true) else (if a0 ≥ 1125899906842624 then (some true) else (if a1 > (IntKind.u64.wrap (1125899906842624 - a0)) then (some true) else (if a2 < 0 then (some true) else (some (decide (a2 > 7))))))) = some r := h
  clear h
  by_cases c4 : a1 = 0
  · rw [if_pos c4] at H
    have c4b0 : (a1 == 0) = true := beq_iff_eq.mpr c4
    have c4b1 : (a1 != 0) = false := bne_eq_false_iff_eq.mpr c4
    clear c4
    obtain rfl := Option.some.inj H
    go_enter Try.func102, Try.ntmps102
    go_wp2
    go_ret
    exact ⟨by first | rfl | (simp; done) | (simp [*]; done), by repeat (first | exact Drawn0.refl _ | apply Drawn0.step)⟩
  rw [if_neg c4] at H
  have c4b0 : (a1 == 0) = false := beq_eq_false_iff_ne.mpr c4
  have c4b1 : (a1 != 0) = true := bne_iff_ne.mpr c4
  by_cases c5 : a0 ≥ 1125899906842624
  · rw [if_pos c5] at H
    have c5b0 : decide (1125899906842624 ≤ a0) = true := decide_eq_true c5
    clear c5
    obtain rfl := Option.some.inj H
    go_enter Try.func102, Try.ntmps102
    go_wp2
    go_ret
    exact ⟨by first | rfl | (simp; done) | (simp [*]; done), by repeat (first | exact Drawn0.refl _ | apply Drawn0.step)⟩
  rw [if_neg c5] at H
  have c5b0 : decide (1125899906842624 ≤ a0) = false := decide_eq_false c5
  clear c5
  by_cases c6 : a1 > (IntKind.u64.wrap (1125899906842624 - a0))
  · rw [if_pos c6] at H
    have c6b0 : decide ((IntKind.u64.wrap (1125899906842624 - a0)) < a1) = true := decide_eq_true c6
    clear c6
    obtain rfl := Option.some.inj H
    go_enter Try.func102, Try.ntmps102
    go_wp2
    go_ret
    exact ⟨by first | rfl | (simp; done) | (simp [*]; done), by repeat (first | exact Drawn0.refl _ | apply Drawn0.step)⟩
  rw [if_neg c6] at H
  have c6b0 : decide ((IntKind.u64.wrap (1125899906842624 - a0)) < a1) = false := decide_eq_false c6
  clear c6
  by_cases c7 : a2 < 0
  · rw [if_pos c7] at H
    have c7b0 : decide (a2 < 0) = true := decide_eq_true c7
    clear c7
    obtain rfl := Option.some.inj H
    go_enter Try.func102, Try.ntmps102
    go_wp2
    go_ret
    exact ⟨by first | rfl | (simp; done) | (simp [*]; done), by repeat (first | exact Drawn0.refl _ | apply Drawn0.step)⟩
  rw [if_neg c7] at H
  have c7b0 : decide (a2 < 0) = false := decide_eq_false c7
  clear c7
  obtain rfl := Option.some.inj H
  go_enter Try.func102, Try.ntmps102
  go_wp2
  go_ret
  exact ⟨by first | rfl | (simp; done) | (simp [*]; done), by repeat (first | exact Drawn0.refl _ | apply Drawn0.step)⟩

end Go.Proofs.Ytgkjdpdmmlalcaa.F
end
