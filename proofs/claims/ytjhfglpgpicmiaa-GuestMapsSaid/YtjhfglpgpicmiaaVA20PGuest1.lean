import Derived.Test.YtjhfglpgpicmiaaVZF0
import Derived.Test.YtjhfglpgpicmiaaVA0
import Derived.Test.YtjhfglpgpicmiaaVA3
import Derived.Test.YtjhfglpgpicmiaaVA7
import Derived.Test.YtjhfglpgpicmiaaVA8HHost11
import Derived.Test.YtjhfglpgpicmiaaVA9
import Derived.Test.YtjhfglpgpicmiaaVA11
import Derived.Test.YtjhfglpgpicmiaaVA14
import Derived.Test.YtjhfglpgpicmiaaVA16
import Derived.Test.YtjhfglpgpicmiaaVA17FFerryref04Fit
import Derived.Test.YtjhfglpgpicmiaaVA19FFerryref04Same
section
namespace Go.Proofs.Ytjhfglpgpicmiaa.F
open Go.RowKit Go.Shelf Go.Proofs.YtjhfglpgpicmiaaW.PrintWords Go.Proofs.YtjhfglpgpicmiaaW.PrintLast Go.Proofs.YtjhfglpgpicmiaaW.PrintMore
set_option linter.unusedVariables false
set_option linter.unusedSimpArgs false
theorem protP_cons (x : SP) (p : List SP) (n : Int) : protP (x :: p) n = if x.f0 = n then x.f1 else protP p n := by
  unfold protP
  have e1 : has pgK n (x :: p) = (decide (x.f0 = n) || has pgK n p) := rfl
  have e2 : look pgK (fun x => x.f1) n (x :: p) = if x.f0 = n then x.f1 else look pgK (fun x => x.f1) n p := rfl
  rw [e1, e2]
  by_cases hx : x.f0 = n
  · rw [if_pos hx, if_pos hx, decide_eq_true hx, Bool.true_or, if_pos rfl]
  rw [if_neg hx, if_neg hx, decide_eq_false hx, Bool.false_or]
theorem ref04_Prot_l0 (l : List SM) (m : List SC) (b : Int) (p : List SP) (hp : p.length ≤ 1000000) (n : Int) : ∀ (k i : Nat), i ≤ p.length → p.length - i < k → ferryref04_Prot.l0 k n (i : Int) l m b p = some (protP (p.drop i) n)
  | 0, i, _, h => by omega
  | k + 1, i, hi, h => by
    unfold ferryref04_Prot.l0
    by_cases hlt : i < p.length
    · have hw : wrap64 ((i : Int) + 1) = ((i + 1 : Nat) : Int) := by unfold wrap64; omega
      rw [if_pos (by omega), if_pos (by omega), pg_getR hlt, hw, ref04_Prot_l0 l m b p hp n k (i + 1) hlt (by omega), List.drop_eq_getElem_cons hlt, protP_cons]
      split <;> rfl
    rw [if_neg (by omega), List.drop_eq_nil_of_le (by omega)]
    rfl
theorem ref04_Prot (l : List SM) (m : List SC) (b : Int) (p : List SP) (hp : p.length ≤ 1000000) (n : Int) (k : Nat) (hk : p.length < k) : ferryref04_Prot.f k l m b p n = some (protP p n) := ref04_Prot_l0 l m b p hp n k 0 (Nat.zero_le _) (by omega)
theorem hoR_eq {b n : Int} (hb : BaseG b) (n0 : 0 ≤ n) (n1 : n < 1048576) : IntKind.u64.wrap (Int.tdiv (IntKind.u64.wrap (b + (IntKind.u64.wrap ((IntKind.u64.wrap n) * 4096)))) 16384) = hoN b n := by
  have h0 := hb.b0
  have h1 := hb.b1
  have h2 := hb.b2
  unfold hoN
  rw [u64w n, u64w (_ * 4096), u64w (b + _), Int.tdiv_eq_ediv_of_nonneg (by omega), u64w]
  omega
theorem usedN_cons (x : SP) (p : List SP) (b a : Int) : usedN (x :: p) b a = (decide (hoN b x.f0 = a) || usedN p b a) := rfl
theorem ref04_used_l0 (l : List SM) (m : List SC) {b : Int} (hb : BaseG b) {p : List SP} (pp : ∀ x ∈ p, 0 ≤ x.f0 ∧ x.f0 < 1048576) (hp : p.length ≤ 1000000) (a : Int) : ∀ (k i : Nat), i ≤ p.length → p.length - i < k → ferryref04_used.l0 k a (i : Int) l m b p = some (usedN (p.drop i) b a)
  | 0, i, _, h => by omega
  | k + 1, i, hi, h => by
    unfold ferryref04_used.l0
    by_cases hlt : i < p.length
    · have hw : wrap64 ((i : Int) + 1) = ((i + 1 : Nat) : Int) := by unfold wrap64; omega
      have hx := pp _ (List.getElem_mem hlt)
      rw [if_pos (by omega), if_pos (by omega), pg_getR hlt, hw, hoR_eq hb hx.1 hx.2, ref04_used_l0 l m hb pp hp a k (i + 1) hlt (by omega), List.drop_eq_getElem_cons hlt, usedN_cons]
      by_cases h2 : hoN b p[i].f0 = a
      · rw [if_pos h2, decide_eq_true h2, Bool.true_or]
      rw [if_neg h2, decide_eq_false h2, Bool.false_or]
    rw [if_neg (by omega), List.drop_eq_nil_of_le (by omega)]
    rfl
theorem ref04_used (l : List SM) (m : List SC) {b : Int} (hb : BaseG b) {p : List SP} (pp : ∀ x ∈ p, 0 ≤ x.f0 ∧ x.f0 < 1048576) (hp : p.length ≤ 1000000) (a : Int) (k : Nat) (hk : p.length < k) : ferryref04_used.f k l m b p a = some (usedN p b a) := ref04_used_l0 l m hb pp hp a k 0 (Nat.zero_le _) (by omega)
theorem ref04_own (l : List SM) (m : List SC) {b : Int} (hb : BaseG b) (p : List SP) {a : Int} (a0 : 0 ≤ a) (a1 : a < 18446744073709551616) : ferryref04_own.f l m b p a = some (if b ≤ a ∧ a - b < 4294967296 then ((a - b) / 4096, true) else (0, false)) := by
  have h0 := hb.b0
  have h1 := hb.b1
  unfold ferryref04_own.f
  by_cases h : b ≤ a
  · rw [if_neg (by omega), u64w (a - b)]
    by_cases h2 : a - b < 4294967296
    · rw [if_neg (by omega), if_pos ⟨h, h2⟩, Int.tdiv_eq_ediv_of_nonneg (by omega), u64w, show (a - b) % 18446744073709551616 / 4096 % 18446744073709551616 % 4294967296 = (a - b) / 4096 by omega]
    rw [if_pos (by omega), if_neg (fun e => h2 e.2)]
  rw [if_pos (by omega), if_neg (fun e => h e.1)]
section
variable {l : List SM} {m : List SC} {b : Int} {p : List SP} {g : Bool}
theorem ref04_Fit_l2 (hg : g = true ↔ FitG l m b p) (FH : FitH l m) (B : BaseG b) (P : PagesG p) (pm : ∀ x ∈ p, has mpK (hoN b x.f0) l = true)
    (lm : ∀ y ∈ l, b ≤ y.f0 * 16384 → y.f0 * 16384 - b < 4294967296 → y.f1 = 3 ∧ ∃ x ∈ p, hoN b x.f0 = y.f0) : ∀ (k i : Nat), i ≤ m.length → (m.length - i) + p.length + 1 < k →
    (∀ (j : Nat) (hj : j < m.length), j < i → b ≤ m[j].f0 → m[j].f0 - b < 4294967296 → ∃ x ∈ p, x.f0 = (m[j].f0 - b) / 4096) → ferryref04_Fit.l2 k (i : Int) l m b p = some g
  | 0, i, _, h, _ => by omega
  | k + 1, i, hi, h, hn => by
    unfold ferryref04_Fit.l2
    have hm := FH.mn
    have hpn := P.pn
    by_cases hlt : i < m.length
    · have hw : wrap64 ((i : Int) + 1) = ((i + 1 : Nat) : Int) := by unfold wrap64; omega
      have hx := FH.mp _ (List.getElem_mem hlt)
      rw [if_pos (by omega), if_pos (by omega), cl_getR hlt, hw, ref04_own l m B p hx.1 hx.2.1, Option.bind_some]
      have go : (b ≤ m[i].f0 → m[i].f0 - b < 4294967296 → ∃ x ∈ p, x.f0 = (m[i].f0 - b) / 4096) → ferryref04_Fit.l2 k ((i + 1 : Nat) : Int) l m b p = some g := fun hc =>
        ref04_Fit_l2 hg FH B P pm lm k (i + 1) hlt (by omega) (fun j hj hji => by
          rcases Nat.lt_or_ge j i with h1 | h1
          · exact hn j hj h1
          · obtain rfl : j = i := by omega
            exact hc)
      by_cases ha : b ≤ m[i].f0 ∧ m[i].f0 - b < 4294967296
      · rw [if_pos ha, if_pos rfl, ref04_Prot l m b p (by omega) _ k (by omega), Option.bind_some]
        have hd := protP_neg P.pr (fun x hx => (P.pp x hx).2.2.1) ((m[i].f0 - b) / 4096)
        cases hh : has pgK ((m[i].f0 - b) / 4096) p with
        | true =>
          rw [hh] at hd
          obtain ⟨x, hx, e⟩ := has_mem.1 hh
          rw [if_neg (of_decide_eq_false hd)]
          exact go (fun _ _ => ⟨x, hx, e⟩)
        | false =>
          rw [hh] at hd
          rw [if_pos (of_decide_eq_true hd)]
          refine congrArg some (Eq.symm (Bool.eq_false_iff.2 (fun e => ?_)))
          obtain ⟨x, hx, e2⟩ := (hg.1 e).cm _ (List.getElem_mem hlt) ha.1 ha.2
          rw [has_mem.2 ⟨x, hx, e2⟩] at hh
          cases hh
      rw [if_neg ha, if_neg (by simp)]
      exact go (fun h1 h2 => absurd ⟨h1, h2⟩ ha)
    rw [if_neg (by omega)]
    refine congrArg some (Eq.symm (hg.2 ⟨FH, B, P, pm, lm, fun c hc => ?_⟩))
    obtain ⟨j, hj, rfl⟩ := List.getElem_of_mem hc
    exact hn j hj (by omega)
theorem ref04_Fit_l1 (hg : g = true ↔ FitG l m b p) (FH : FitH l m) (B : BaseG b) (P : PagesG p) (pm : ∀ x ∈ p, has mpK (hoN b x.f0) l = true) : ∀ (k i : Nat), i ≤ l.length → (l.length - i) + m.length + p.length + 2 < k →
    (∀ (j : Nat) (hj : j < l.length), j < i → b ≤ l[j].f0 * 16384 → l[j].f0 * 16384 - b < 4294967296 → l[j].f1 = 3 ∧ ∃ x ∈ p, hoN b x.f0 = l[j].f0) → ferryref04_Fit.l1 k (i : Int) l m b p = some g
  | 0, i, _, h, _ => by omega
  | k + 1, i, hi, h, hn => by
    unfold ferryref04_Fit.l1
    have hm := FH.ln
    have hpn := P.pn
    by_cases hlt : i < l.length
    · have hw : wrap64 ((i : Int) + 1) = ((i + 1 : Nat) : Int) := by unfold wrap64; omega
      have hx := FH.lp _ (List.getElem_mem hlt)
      rw [if_pos (by omega), if_pos (by omega), mp_getR hlt, hw, u64w, show l[i].f0 * 16384 % 18446744073709551616 = l[i].f0 * 16384 by omega, ref04_own l m B p (by omega) (by omega), Option.bind_some]
      have go : (b ≤ l[i].f0 * 16384 → l[i].f0 * 16384 - b < 4294967296 → l[i].f1 = 3 ∧ ∃ x ∈ p, hoN b x.f0 = l[i].f0) → ferryref04_Fit.l1 k ((i + 1 : Nat) : Int) l m b p = some g := fun hc =>
        ref04_Fit_l1 hg FH B P pm k (i + 1) hlt (by omega) (fun j hj hji => by
          rcases Nat.lt_or_ge j i with h1 | h1
          · exact hn j hj h1
          · obtain rfl : j = i := by omega
            exact hc)
      have no : ∀ (ha : b ≤ l[i].f0 * 16384 ∧ l[i].f0 * 16384 - b < 4294967296), ¬ (l[i].f1 = 3 ∧ ∃ x ∈ p, hoN b x.f0 = l[i].f0) → some false = some g := fun ha hh =>
        congrArg some (Eq.symm (Bool.eq_false_iff.2 (fun e => hh ((hg.1 e).lm _ (List.getElem_mem hlt) ha.1 ha.2))))
      by_cases ha : b ≤ l[i].f0 * 16384 ∧ l[i].f0 * 16384 - b < 4294967296
      · rw [if_pos ha, if_pos rfl]
        by_cases h3 : l[i].f1 = 3
        · rw [if_pos h3, ref04_used l m B (fun x hx => ⟨(P.pp x hx).1, (P.pp x hx).2.1⟩) (by omega) _ k (by omega), Option.bind_some]
          cases hu : usedN p b l[i].f0 with
          | true =>
            rw [if_pos rfl]
            exact go (fun _ _ => ⟨h3, usedN_iff.1 hu⟩)
          | false =>
            rw [if_neg (by decide)]
            exact no ha (fun e => by rw [usedN_iff.2 e.2] at hu; cases hu)
        rw [if_neg h3]
        exact no ha (fun e => h3 e.1)
      rw [if_neg ha, if_neg (by simp)]
      exact go (fun h1 h2 => absurd ⟨h1, h2⟩ ha)
    rw [if_neg (by omega)]
    refine ref04_Fit_l2 hg FH B P pm (fun y hy => ?_) k 0 (Nat.zero_le _) (by omega) (fun j _ hj => by omega)
    obtain ⟨j, hj, rfl⟩ := List.getElem_of_mem hy
    exact hn j hj (by omega)
theorem ref04_Fit_l0 (hg : g = true ↔ FitG l m b p) (FH : FitH l m) (B : BaseG b) (hpn : p.length ≤ 256) (wp : ∀ x ∈ p, wfP x) : ∀ (k i : Nat), i ≤ p.length → 2 * (p.length - i) + l.length + m.length + p.length + 3 < k →
    (∀ (j : Nat) (hj : j < p.length), j < i → (p[j].f0 < 1048576 ∧ 0 ≤ p[j].f1 ∧ p[j].f1 ≤ 7) ∧ prevGe pgK p j (pgK p[j]) = false ∧ has mpK (hoN b p[j].f0) l = true) → ferryref04_Fit.l0 k (i : Int) l m b p = some g
  | 0, i, _, h, _ => by omega
  | k + 1, i, hi, h, hn => by
    unfold ferryref04_Fit.l0
    have hm := FH.ln
    by_cases hlt : i < p.length
    · have hw : wrap64 ((i : Int) + 1) = ((i + 1 : Nat) : Int) := by unfold wrap64; omega
      have hx : (0 ≤ p[i].f0 ∧ p[i].f0 ≤ 4294967295) ∧ _ := wp _ (List.getElem_mem hlt)
      obtain ⟨k, rfl⟩ : ∃ q, k = q + 1 := ⟨k - 1, by omega⟩
      have hj2 : ∀ t f0 f1, ferryref04_Fit.j2 (k + 1) (i : Int) t l m b p f0 f1 = if t = true then some false else (ferryref03_Place.f k l m (IntKind.u64.wrap (Int.tdiv (IntKind.u64.wrap (b + (IntKind.u64.wrap ((IntKind.u64.wrap f0) * 4096)))) 16384))).bind fun t115 => (if t115 < 0 then (some false) else (ferryref04_Fit.l0 k (wrap64 ((i : Int) + 1)) l m b p)) := fun t f0 f1 => rfl
      have no : ¬ ((p[i].f0 < 1048576 ∧ 0 ≤ p[i].f1 ∧ p[i].f1 ≤ 7) ∧ prevGe pgK p i (pgK p[i]) = false ∧ has mpK (hoN b p[i].f0) l = true) → some false = some g := fun hh =>
        congrArg some (Eq.symm (Bool.eq_false_iff.2 (fun e => hh (by
          have hf := hg.1 e
          have hy := hf.pages.pp _ (List.getElem_mem hlt)
          exact ⟨hy.2, (rises_prev p).1 hf.pages.pr i hlt, hf.pm _ (List.getElem_mem hlt)⟩))))
      rw [if_pos (by omega), if_pos (by omega), pg_getR hlt]
      by_cases h1 : p[i].f0 ≥ 1048576
      · rw [if_pos h1, hj2, if_pos rfl]
        exact no (fun e => by omega)
      rw [if_neg h1]
      by_cases h2 : p[i].f1 < 0
      · rw [if_pos h2, hj2, if_pos rfl]
        exact no (fun e => by omega)
      rw [if_neg h2]
      by_cases h3 : p[i].f1 > 7
      · rw [if_pos h3, hj2, if_pos rfl]
        exact no (fun e => by omega)
      have hj3 : ∀ t, ferryref04_Fit.j2 (k + 1) (i : Int) t l m b p p[i].f0 p[i].f1 = if t = true then some false else (if placeR l (hoN b p[i].f0) < 0 then some false else ferryref04_Fit.l0 k ((i + 1 : Nat) : Int) l m b p) := fun t => by
        rw [hj2, hw, hoR_eq B hx.1.1 (by omega), ref_place _ l m (by omega) k (by omega), Option.bind_some]
      rw [if_neg h3]
      have hpl := placeR_has l (hoN b p[i].f0)
      have go : prevGe pgK p i (pgK p[i]) = false → (if placeR l (hoN b p[i].f0) < 0 then some false else ferryref04_Fit.l0 k ((i + 1 : Nat) : Int) l m b p) = some g := fun hpv => by
        cases hh : has mpK (hoN b p[i].f0) l with
        | false =>
          rw [hh] at hpl
          rw [if_pos (of_decide_eq_true hpl)]
          exact no (fun e => by rw [hh] at e; cases e.2.2)
        | true =>
          rw [hh] at hpl
          rw [if_neg (of_decide_eq_false hpl)]
          exact ref04_Fit_l0 hg FH B hpn wp k (i + 1) hlt (by omega) (fun j hj hji => by
            rcases Nat.lt_or_ge j i with h4 | h4
            · exact hn j hj h4
            · obtain rfl : j = i := by omega
              exact ⟨⟨by omega, by omega, by omega⟩, hpv, hh⟩)
      by_cases hi0 : (i : Int) > 0
      · obtain ⟨i, rfl⟩ : ∃ q, i = q + 1 := ⟨i - 1, by omega⟩
        have hw2 : wrap64 (((i + 1 : Nat) : Int) - 1) = ((i : Nat) : Int) := by unfold wrap64; omega
        have hpv : prevGe pgK p (i + 1) (pgK p[i + 1]) = decide ((p[i]'(by omega)).f0 ≥ p[i + 1].f0) := prevGe_succ pgK p i (by omega) _
        rw [if_pos hi0, hw2, if_pos (by omega), if_pos (by omega), pg_getR (by omega), hj3]
        rw [hpv] at go
        by_cases h4 : (p[i]'(by omega)).f0 ≥ p[i + 1].f0
        · rw [decide_eq_true h4, if_pos rfl]
          exact no (fun e => by rw [hpv, decide_eq_true h4] at e; cases e.2.1)
        rw [decide_eq_false h4, if_neg (by decide)]
        exact go (decide_eq_false h4)
      rw [if_neg hi0, hj3, if_neg (by decide)]
      refine go ?_
      obtain rfl : i = 0 := by omega
      rfl
    rw [if_neg (by omega)]
    have hi2 : ∀ (j : Nat) (hj : j < p.length), _ := fun j hj => hn j hj (by omega)
    have P : PagesG p := ⟨hpn, (rises_prev p).2 (fun j hj => (hi2 j hj).2.1), fun x hx => by
      obtain ⟨j, hj, rfl⟩ := List.getElem_of_mem hx
      have hx2 : (0 ≤ p[j].f0 ∧ p[j].f0 ≤ 4294967295) ∧ _ := wp _ hx
      exact ⟨hx2.1.1, (hi2 j hj).1⟩⟩
    refine ref04_Fit_l1 hg FH B P (fun x hx => ?_) k 0 (Nat.zero_le _) (by omega) (fun j _ hj => by omega)
    obtain ⟨j, hj, rfl⟩ := List.getElem_of_mem hx
    exact (hi2 j hj).2.2
end
theorem ref04_Fit {l : List SM} {m : List SC} {b : Int} {p : List SP} (wl : ∀ x ∈ l, wfM x) (wm : ∀ x ∈ m, wfC x) (b0 : 0 ≤ b) (b1 : b ≤ 18446744073709551615) (wp : ∀ x ∈ p, wfP x) (hl : l.length ≤ 1000000) (hm : m.length ≤ 1000000) (k : Nat) (hk : 3 * p.length + l.length + m.length + 5 < k) :
    ferryref04_Fit.f k l m b p = some (gfitB l m b p) := by
  have hg := gfitB_iff (p := p) wl wm b0 b1 wp
  generalize gfitB l m b p = g at hg ⊢
  unfold ferryref04_Fit.f
  obtain ⟨k, rfl⟩ : ∃ q, k = q + 1 := ⟨k - 1, by omega⟩
  have hj0 : ∀ t, ferryref04_Fit.j0 (k + 1) t l m b p = if t = true then some false else ferryref04_Fit.l0 k 0 l m b p := fun t => rfl
  rw [ref_Fit_spec l m ⟨hl, hm⟩, Option.bind_some, hj0, hj0, if_pos rfl]
  have no : ¬ FitG l m b p → some false = some g := fun hh => congrArg some (Eq.symm (Bool.eq_false_iff.2 (fun e => hh (hg.1 e))))
  by_cases hf : fitR l m = true
  rotate_left
  · rw [if_neg hf]
    exact no (fun e => hf e.h.fitR)
  rw [if_pos hf, Int.tmod_eq_emod_of_nonneg b0]
  by_cases h1 : b % 16384 = 0
  rotate_left
  · rw [if_neg h1]
    exact no (fun e => h1 e.base.b2)
  rw [if_pos h1]
  by_cases h2 : b > 4611686018427387904
  · rw [if_pos h2]
    exact no (fun e => by have := e.base.b1; omega)
  rw [if_neg h2]
  by_cases h3 : (p.length : Int) > 256
  · rw [decide_eq_true h3, if_pos rfl]
    exact no (fun e => by have := e.pages.pn; omega)
  rw [decide_eq_false h3, if_neg (by decide)]
  exact ref04_Fit_l0 hg ((fitR_iff wl wm).1 hf) ⟨b0, by omega, h1⟩ (by omega) wp k 0 (Nat.zero_le _) (by omega) (fun j _ hj => by omega)
def eqPg (x y : SP) : Bool := (x.f0 == y.f0) && (x.f1 == y.f1)
def sameG (l : List SM) (m : List SC) (b : Int) (p : List SP) (l' : List SM) (m' : List SC) (b' : Int) (p' : List SP) : Bool := sameS l m l' m' && (decide (b = b') && eqL eqPg p p')
theorem sameG_refl (l : List SM) (m : List SC) (b : Int) (p : List SP) : sameG l m b p l m b p = true := by
  unfold sameG
  rw [sameS_refl, decide_eq_true rfl, eqL_refl (fun x => by unfold eqPg; simp) p]
  rfl
theorem ref04_Same_l0 (l : List SM) (m : List SC) (b : Int) (p : List SP) (l' : List SM) (m' : List SC) (b' : Int) (p' : List SP) (e : p.length = p'.length) (hp : p.length ≤ 1000000) : ∀ (k i : Nat), i ≤ p.length → p.length - i < k → ferryref04_Same.l0 k (i : Int) l m b p l' m' b' p' = some (eqL eqPg (p.drop i) (p'.drop i))
  | 0, i, _, h => by omega
  | k + 1, i, hi, h => by
    unfold ferryref04_Same.l0
    by_cases hlt : i < p.length
    · have hw : wrap64 ((i : Int) + 1) = ((i + 1 : Nat) : Int) := by unfold wrap64; omega
      rw [if_pos (by omega), if_pos (by omega), if_pos (by omega), pg_getR hlt, pg_getR (by omega), hw, ref04_Same_l0 l m b p l' m' b' p' e hp k (i + 1) hlt (by omega), List.drop_eq_getElem_cons hlt, List.drop_eq_getElem_cons (show i < p'.length by omega)]
      rw [show eqL eqPg (p[i] :: p.drop (i + 1)) (p'[i] :: p'.drop (i + 1)) = (eqPg p[i] p'[i] && eqL eqPg (p.drop (i + 1)) (p'.drop (i + 1))) from rfl]
      unfold eqPg
      cases (p[i].f0 == p'[i].f0) <;> cases (p[i].f1 == p'[i].f1) <;> rfl
    rw [if_neg (by omega), List.drop_eq_nil_of_le (by omega), List.drop_eq_nil_of_le (by omega)]
    rfl
theorem ref04_Same (l : List SM) (m : List SC) (b : Int) (p : List SP) (l' : List SM) (m' : List SC) (b' : Int) (p' : List SP) (hl : l.length ≤ 1000000) (hm : m.length ≤ 1000000) (hp : p.length ≤ 1000000) (k : Nat) (hk : l.length + m.length + p.length + 3 < k) :
    ferryref04_Same.f k l m b p l' m' b' p' = some (sameG l m b p l' m' b' p') := by
  unfold ferryref04_Same.f sameG
  obtain ⟨k, rfl⟩ : ∃ q, k = q + 1 := ⟨k - 1, by omega⟩
  have hj0 : ∀ t, ferryref04_Same.j0 (k + 1) t l m b p l' m' b' p' = if t = true then some false else ferryref04_Same.l0 k 0 l m b p l' m' b' p' := fun t => rfl
  rw [ref_Same l m l' m' hl hm (k + 1) (by omega), Option.bind_some, hj0, hj0, if_pos rfl]
  cases hs : sameS l m l' m' with
  | false => rfl
  | true =>
    rw [if_pos rfl, Bool.true_and]
    by_cases hb : b = b'
    · rw [if_pos hb, decide_eq_true hb, Bool.true_and]
      by_cases e : p.length = p'.length
      · rw [bne_eq_false_iff_eq.2 (by omega), if_neg (by decide)]
        exact ref04_Same_l0 l m b p l' m' b' p' e hp k 0 (Nat.zero_le _) (by omega)
      rw [bne_iff_ne.2 (by omega), if_pos rfl]
      cases h : eqL eqPg p p' with
      | false => rfl
      | true => exact absurd (eqL_length h) e
    rw [if_neg hb, decide_eq_false hb, Bool.false_and]
end Go.Proofs.Ytjhfglpgpicmiaa.F
end
