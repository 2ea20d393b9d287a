import Derived.Test.YtgkjdpdmmlalcaaVZF0
import Derived.Test.YtgkjdpdmmlalcaaVA0
import Derived.Test.YtgkjdpdmmlalcaaVA4HHost3
import Derived.Test.YtgkjdpdmmlalcaaVA5
import Derived.Test.YtgkjdpdmmlalcaaVA6HHost11
import Derived.Test.YtgkjdpdmmlalcaaVA7
import Derived.Test.YtgkjdpdmmlalcaaVA8FFerryref04Fit
import Derived.Test.YtgkjdpdmmlalcaaVA9
import Derived.Test.YtgkjdpdmmlalcaaVA11
import Derived.Test.YtgkjdpdmmlalcaaVA13
import Derived.Test.YtgkjdpdmmlalcaaVA14HGuest4
import Derived.Test.YtgkjdpdmmlalcaaVA15
import Derived.Test.YtgkjdpdmmlalcaaVA16HGuest7
import Derived.Test.YtgkjdpdmmlalcaaVA17
import Derived.Test.YtgkjdpdmmlalcaaVA18FGmapBrk
import Derived.Test.YtgkjdpdmmlalcaaVA19
import Derived.Test.YtgkjdpdmmlalcaaVA22
import Derived.Test.YtgkjdpdmmlalcaaVA23FGmapMmap
import Derived.Test.YtgkjdpdmmlalcaaVA24FGmapWith
import Derived.Test.YtgkjdpdmmlalcaaVA25FGmapMunmap
import Derived.Test.YtgkjdpdmmlalcaaVA26FFerrylaw06Awake
import Derived.Test.YtgkjdpdmmlalcaaVA28FFerryref04Same
import Derived.Test.YtgkjdpdmmlalcaaVA29FFerryref06Same
import Derived.Test.YtgkjdpdmmlalcaaVA30FFerrylaw06GmapBack
section
namespace Go.Proofs.Ytgkjdpdmmlalcaa.F
open Go.RowKit Go.Proofs.YtgkjdpdmmlalcaaW.PrintWords Go.Proofs.YtgkjdpdmmlalcaaW.PrintLast Go.Proofs.YtgkjdpdmmlalcaaW.PrintMore
def ferrylaw06_GmapBack.Pure : Prop :=
  ∀ (l0_0 : List (S83)) (l0_1 : List (S88)) (a0_2 : Int) (l0_3 : List (S41)) (a0_4 : Int) (a0_5 : Int) (a1 : Int) (a2 : Int) (a3 : Int), (l0_0.length ≤ 9223372036854775807 ∧ ∀ x_ ∈ l0_0, wfS83 x_) → (l0_1.length ≤ 9223372036854775807 ∧ ∀ x_ ∈ l0_1, wfS88 x_) → (0 ≤ a0_2 ∧ a0_2 ≤ 18446744073709551615) → (l0_3.length ≤ 9223372036854775807 ∧ ∀ x_ ∈ l0_3, wfS41 x_) → (0 ≤ a0_4 ∧ a0_4 ≤ 4294967295) → (0 ≤ a0_5 ∧ a0_5 ≤ 4294967295) → (0 ≤ a1 ∧ a1 ≤ 4294967295) → (0 ≤ a2 ∧ a2 ≤ 4294967295) → ((-9223372036854775808) ≤ a3 ∧ a3 ≤ 9223372036854775807) → ∃ k, ferrylaw06_GmapBack.f k l0_0 l0_1 a0_2 l0_3 a0_4 a0_5 a1 a2 a3 = some true
end Go.Proofs.Ytgkjdpdmmlalcaa.F
end
section
namespace Go.Proofs.Ytgkjdpdmmlalcaa.F
open Go.RowKit Go.Shelf Go.Proofs.YtgkjdpdmmlalcaaW.PrintWords Go.Proofs.YtgkjdpdmmlalcaaW.PrintLast Go.Proofs.YtgkjdpdmmlalcaaW.PrintMore
set_option linter.unusedVariables false
set_option linter.unusedSimpArgs false
abbrev wfP := wfS41
def hoN (b n : Int) : Int := b / 16384 + n / 4
def usedN (p : List SP) (b a : Int) : Bool := p.any (fun x => decide (hoN b x.f0 = a))
structure BaseG (b : Int) : Prop where
  b0 : 0 ≤ b
  b1 : b ≤ 4611686018427387904
  b2 : b % 16384 = 0
structure PagesG (p : List SP) : Prop where
  pn : p.length ≤ 256
  pr : Rises pgK p
  pp : ∀ x ∈ p, 0 ≤ x.f0 ∧ x.f0 < 1048576 ∧ 0 ≤ x.f1 ∧ x.f1 ≤ 7
structure FitG (l : List SM) (m : List SC) (b : Int) (p : List SP) : Prop where
  h : FitH l m
  base : BaseG b
  pages : PagesG p
  pm : ∀ x ∈ p, has mpK (hoN b x.f0) l = true
  lm : ∀ y ∈ l, b ≤ y.f0 * 16384 → y.f0 * 16384 - b < 4294967296 → y.f1 = 3 ∧ ∃ x ∈ p, hoN b x.f0 = y.f0
  cm : ∀ c ∈ m, b ≤ c.f0 → c.f0 - b < 4294967296 → ∃ x ∈ p, x.f0 = (c.f0 - b) / 4096
theorem hoN_mem {b n : Int} (hb : BaseG b) (n0 : 0 ≤ n) (n1 : n < 1048576) : b ≤ hoN b n * 16384 ∧ hoN b n * 16384 - b < 4294967296 := by
  have h0 := hb.b0
  have h2 := hb.b2
  unfold hoN
  omega
theorem hoS_eq {b n : Int} (hb : BaseG b) (n0 : 0 ≤ n) (n1 : n < 1048576) : hoS b n = hoN b n := by
  have h0 := hb.b0
  have h1 := hb.b1
  have h2 := hb.b2
  unfold hoS hoN
  rw [u64w (n * 4096 % 4294967296), u64w (b + _), Int.tdiv_eq_ediv_of_nonneg (by omega), u64w]
  omega
theorem reachS_eq {b a : Int} (hb : BaseG b) (a0 : 0 ≤ a) (a1 : a < 18446744073709551616) : reachS b a = decide (b ≤ a ∧ a - b < 4294967296) := by
  have h0 := hb.b0
  have h1 := hb.b1
  unfold reachS
  rw [u64w]
  by_cases h : b ≤ a
  · rw [decide_eq_true (show a ≥ b from h), Bool.and_true]
    by_cases h2 : a - b < 4294967296
    · rw [decide_eq_true (show (a - b) % 18446744073709551616 < 4294967296 by omega), decide_eq_true (show b ≤ a ∧ a - b < 4294967296 from ⟨h, h2⟩)]
    rw [decide_eq_false (show ¬ (a - b) % 18446744073709551616 < 4294967296 by omega), decide_eq_false (show ¬ (b ≤ a ∧ a - b < 4294967296) from fun e => h2 e.2)]
  rw [decide_eq_false (show ¬ a ≥ b from h), Bool.and_false, decide_eq_false (fun e => h e.1)]
theorem usedS_eq {p : List SP} {b : Int} (hb : BaseG b) (hr : Rises pgK p) (pp : ∀ x ∈ p, 0 ≤ x.f0 ∧ x.f0 < 1048576) {a : Int} (a0 : b ≤ a * 16384) (a1 : a * 16384 - b < 4294967296) : usedS p b a = usedN p b a := by
  have h0 := hb.b0
  have h1 := hb.b1
  have h2 := hb.b2
  have e : (IntKind.u64.wrap (Int.tdiv (IntKind.u64.wrap ((IntKind.u64.wrap (a * 16384)) - b)) 4096)) % 4294967296 = 4 * (a - b / 16384) := by
    rw [u64w (a * 16384), u64w (_ - b), Int.tdiv_eq_ediv_of_nonneg (by omega), u64w]
    omega
  unfold usedS
  rw [e]
  generalize hj : 4 * (a - b / 16384) = j
  cases h : p[lowB pgK j p]? with
  | none =>
    have hlen := List.getElem?_eq_none_iff.1 h
    symm
    refine List.any_eq_false.2 (fun x hx => ?_)
    obtain ⟨i, hi, rfl⟩ := List.getElem_of_mem hx
    have h3 := lowB_lt pgK j p i hi (by omega)
    have h4 : pgK p[i] = p[i].f0 := rfl
    have h5 := pp _ hx
    simp only [decide_eq_true_eq]
    unfold hoN
    omega
  | some x =>
    obtain ⟨hlt, hx⟩ := List.getElem?_eq_some_iff.1 h
    have hm : x ∈ p := by rw [← hx]; exact List.getElem_mem hlt
    have hp := pp x hm
    have hge := lowB_ge pgK j hr _ hlt (Nat.le_refl _)
    rw [hx] at hge
    have hk : pgK x = x.f0 := rfl
    dsimp only
    rw [hoS_eq hb hp.1 hp.2]
    by_cases hxa : hoN b x.f0 = a
    · rw [hxa, beq_self_eq_true]
      symm
      exact List.any_eq_true.2 ⟨x, hm, decide_eq_true hxa⟩
    rw [show (hoN b x.f0 == a) = false from beq_eq_false_iff_ne.2 hxa]
    symm
    refine List.any_eq_false.2 (fun y hy => ?_)
    obtain ⟨i, hi, rfl⟩ := List.getElem_of_mem hy
    have h5 := pp _ hy
    have h4 : pgK p[i] = p[i].f0 := rfl
    simp only [decide_eq_true_eq]
    unfold hoN at hxa ⊢
    rcases Nat.lt_or_ge i (lowB pgK j p) with h6 | h6
    · have h3 := lowB_lt pgK j p i hi h6
      omega
    · have h3 : x.f0 ≤ p[i].f0 := by
        rcases Nat.lt_or_eq_of_le h6 with h7 | h7
        · have h8 := rises_get pgK hr _ i hi h7
          rw [hx] at h8
          have h9 : pgK x = x.f0 := rfl
          omega
        · subst h7
          rw [hx]
          exact Int.le_refl _
      omega
theorem protP_neg {p : List SP} (hr : Rises pgK p) (pp : ∀ x ∈ p, 0 ≤ x.f1) (n : Int) : decide (protP p n < 0) = !has pgK n p := by
  unfold protP
  cases hh : has pgK n p with
  | false => rfl
  | true =>
    rw [if_pos rfl]
    obtain ⟨x, hx, e⟩ := has_mem.1 hh
    rw [← e, look_mem pgK (fun x => x.f1) hr hx]
    have := pp x hx
    exact decide_eq_false (by omega)
theorem mappedS_ne {l : List SM} (hr : Rises mpK l) (a : Int) : (mappedS l a != 3) = !(has mpK a l && decide (prt l a = 3)) := by
  unfold mappedS
  cases hh : has mpK a l with
  | false => rfl
  | true =>
    rw [if_pos rfl, Bool.true_and]
    by_cases h : prt l a = 3
    · rw [h]
      rfl
    rw [decide_eq_false h, bne_iff_ne.2 h]
    rfl
theorem fpS_iff {p : List SP} (wp : ∀ x ∈ p, wfP x) : fpS p = true ↔ Rises pgK p ∧ ∀ x ∈ p, 0 ≤ x.f0 ∧ x.f0 < 1048576 ∧ 0 ≤ x.f1 ∧ x.f1 ≤ 7 := by
  have hb : ∀ (k : Nat) (hk : k < p.length), badPg p k = false ↔ (p[k].f0 < 1048576 ∧ 0 ≤ p[k].f1 ∧ p[k].f1 ≤ 7) ∧ prevGe pgK p k (pgK p[k]) = false := fun k hk => by
    have hw : (0 ≤ p[k].f0 ∧ p[k].f0 ≤ 4294967295) ∧ (-9223372036854775808 ≤ p[k].f1 ∧ p[k].f1 ≤ 9223372036854775807) := wp _ (List.getElem_mem hk)
    unfold badPg
    rw [List.getElem?_eq_getElem hk]
    dsimp only
    rw [badProt_iff hw.2.1 hw.2.2, Bool.or_eq_false_iff, Bool.or_eq_false_iff, decide_eq_false_iff_not, Bool.not_eq_false', decide_eq_true_eq]
    exact ⟨fun h => ⟨⟨by omega, h.2.1⟩, h.2.2⟩, fun h => ⟨by omega, h.1.2, h.2⟩⟩
  unfold fpS
  rw [not_any_range, rises_prev]
  refine ⟨fun h => ⟨fun i hi => ((hb i hi).1 (h i hi)).2, fun x hx => ?_⟩, fun h i hi => (hb i hi).2 ⟨(h.2 _ (List.getElem_mem hi)).2, h.1 i hi⟩⟩
  obtain ⟨i, hi, rfl⟩ := List.getElem_of_mem hx
  have hw : (0 ≤ p[i].f0 ∧ p[i].f0 ≤ 4294967295) ∧ _ := wp _ hx
  exact ⟨hw.1.1, ((hb i hi).1 (h i hi)).1⟩
theorem usedN_iff {p : List SP} {b a : Int} : usedN p b a = true ↔ ∃ x ∈ p, hoN b x.f0 = a := by
  unfold usedN
  rw [List.any_eq_true]
  exact ⟨fun ⟨x, hx, h⟩ => ⟨x, hx, of_decide_eq_true h⟩, fun ⟨x, hx, h⟩ => ⟨x, hx, decide_eq_true h⟩⟩
theorem FitG.prt {l : List SM} {m : List SC} {b : Int} {p : List SP} (h : FitG l m b p) {x : SP} (hx : x ∈ p) : prt l (hoN b x.f0) = 3 := by
  obtain ⟨y, hy, e⟩ := has_mem.1 (h.pm x hx)
  have hk : mpK y = y.f0 := rfl
  have hp := h.pages.pp x hx
  have hm := hoN_mem h.base hp.1 hp.2.1
  rw [← e] at hm ⊢
  unfold F.prt
  rw [look_mem mpK mpV h.h.lr hy]
  exact (h.lm y hy hm.1 hm.2).1
theorem gfitB_iff {l : List SM} {m : List SC} {b : Int} {p : List SP} (wl : ∀ x ∈ l, wfM x) (wm : ∀ x ∈ m, wfC x) (b0 : 0 ≤ b) (b1 : b ≤ 18446744073709551615) (wp : ∀ x ∈ p, wfP x) : gfitB l m b p = true ↔ FitG l m b p := by
  unfold gfitB
  simp only [Bool.and_eq_true, Bool.not_eq_true', decide_eq_false_iff_not, fitB_iff wl wm, fpS_iff wp, bne_eq_false_iff_eq, List.any_eq_false]
  rw [Int.tmod_eq_emod_of_nonneg b0]
  constructor
  · rintro ⟨hH, h1, h2, h3, ⟨h4, h5⟩, h6, h7, h8⟩
    have hb : BaseG b := ⟨b0, by omega, h1⟩
    have hL : ∀ y ∈ l, b ≤ y.f0 * 16384 → y.f0 * 16384 - b < 4294967296 → ∃ x ∈ p, hoN b x.f0 = y.f0 := fun y hy ha hc => by
      have hp := hH.lp y hy
      have h9 := h7 y hy
      unfold idleB at h9
      rw [u64w, show y.f0 * 16384 % 18446744073709551616 = y.f0 * 16384 by omega, reachS_eq hb (by omega) (by omega), decide_eq_true ⟨ha, hc⟩, usedS_eq hb h4 (fun x hx => ⟨(h5 x hx).1, (h5 x hx).2.1⟩) ha hc] at h9
      exact usedN_iff.1 (by simpa using h9)
    have hP : ∀ x ∈ p, has mpK (hoN b x.f0) l = true ∧ F.prt l (hoN b x.f0) = 3 := fun x hx => by
      have h9 := h6 x hx
      have hp := h5 x hx
      unfold lostB at h9
      rw [hoS_eq hb hp.1 hp.2.1, mappedS_ne hH.lr] at h9
      simpa using h9
    refine ⟨hH, hb, ⟨by omega, h4, h5⟩, fun x hx => (hP x hx).1, fun y hy ha hc => ?_, fun c hc ha hd => ?_⟩
    · obtain ⟨x, hx, e⟩ := hL y hy ha hc
      refine ⟨?_, x, hx, e⟩
      have h9 := (hP x hx).2
      rw [e] at h9
      unfold F.prt at h9
      have h10 := look_mem mpK mpV hH.lr hy
      have hk : mpK y = y.f0 := rfl
      rw [hk, h9] at h10
      exact h10.symm
    · have h9 := h8 c hc
      have hq := hH.mp c hc
      unfold strayB at h9
      rw [reachS_eq hb hq.1 hq.2.1, decide_eq_true ⟨ha, hd⟩, protP_neg h4 (fun x hx => (h5 x hx).2.2.1), u64w (c.f0 - b), Int.tdiv_eq_ediv_of_nonneg (by omega), u64w, show (c.f0 - b) % 18446744073709551616 / 4096 % 18446744073709551616 % 4294967296 = (c.f0 - b) / 4096 by omega] at h9
      obtain ⟨x, hx, e⟩ := has_mem.1 (show has pgK ((c.f0 - b) / 4096) p = true by simpa using h9)
      exact ⟨x, hx, e⟩
  · intro h
    have hb := h.base
    have h5 := h.pages.pp
    refine ⟨h.h, hb.b2, by have := hb.b1; omega, by have := h.pages.pn; omega, ⟨h.pages.pr, h5⟩, fun x hx => ?_, fun y hy => ?_, fun c hc => ?_⟩
    · have hp := h5 x hx
      unfold lostB
      rw [hoS_eq hb hp.1 hp.2.1, mappedS_ne h.h.lr, h.pm x hx, h.prt hx]
      simp
    · have hp := h.h.lp y hy
      unfold idleB
      rw [u64w, show y.f0 * 16384 % 18446744073709551616 = y.f0 * 16384 by omega, reachS_eq hb (by omega) (by omega)]
      by_cases ha : b ≤ y.f0 * 16384 ∧ y.f0 * 16384 - b < 4294967296
      · rw [decide_eq_true ha, usedS_eq hb h.pages.pr (fun x hx => ⟨(h5 x hx).1, (h5 x hx).2.1⟩) ha.1 ha.2, usedN_iff.2 (h.lm y hy ha.1 ha.2).2]
        simp
      rw [decide_eq_false ha]
      simp
    · have hq := h.h.mp c hc
      unfold strayB
      rw [reachS_eq hb hq.1 hq.2.1]
      by_cases ha : b ≤ c.f0 ∧ c.f0 - b < 4294967296
      · obtain ⟨x, hx, e⟩ := h.cm c hc ha.1 ha.2
        rw [decide_eq_true ha, protP_neg h.pages.pr (fun x hx => (h5 x hx).2.2.1), u64w (c.f0 - b), Int.tdiv_eq_ediv_of_nonneg (by omega), u64w, show (c.f0 - b) % 18446744073709551616 / 4096 % 18446744073709551616 % 4294967296 = (c.f0 - b) / 4096 by omega, has_mem.2 ⟨x, hx, e⟩]
        simp
      rw [decide_eq_false ha]
      simp
end Go.Proofs.Ytgkjdpdmmlalcaa.F
end
section
namespace Go.Proofs.Ytgkjdpdmmlalcaa.F
open Go.RowKit Go.Shelf Go.Proofs.YtgkjdpdmmlalcaaW.PrintWords Go.Proofs.YtgkjdpdmmlalcaaW.PrintLast Go.Proofs.YtgkjdpdmmlalcaaW.PrintMore
set_option linter.unusedVariables false
set_option linter.unusedSimpArgs false
theorem protP_cons (x : SP) (p : List SP) (n : Int) : protP (x :: p) n = if x.f0 = n then x.f1 else protP p n := by
  unfold protP
  have e1 : has pgK n (x :: p) = (decide (x.f0 = n) || has pgK n p) := rfl
  have e2 : look pgK (fun x => x.f1) n (x :: p) = if x.f0 = n then x.f1 else look pgK (fun x => x.f1) n p := rfl
  rw [e1, e2]
  by_cases hx : x.f0 = n
  · rw [if_pos hx, if_pos hx, decide_eq_true hx, Bool.true_or, if_pos rfl]
  rw [if_neg hx, if_neg hx, decide_eq_false hx, Bool.false_or]
theorem ref04_Prot_l0 (l : List SM) (m : List SC) (b : Int) (p : List SP) (hp : p.length ≤ 1000000) (n : Int) : ∀ (k i : Nat), i ≤ p.length → p.length - i < k → ferryref04_Prot.l0 k n (i : Int) l m b p = some (protP (p.drop i) n)
  | 0, i, _, h => by omega
  | k + 1, i, hi, h => by
    unfold ferryref04_Prot.l0
    by_cases hlt : i < p.length
    · have hw : wrap64 ((i : Int) + 1) = ((i + 1 : Nat) : Int) := by unfold wrap64; omega
      rw [if_pos (by omega), if_pos (by omega), pg_getR hlt, hw, ref04_Prot_l0 l m b p hp n k (i + 1) hlt (by omega), List.drop_eq_getElem_cons hlt, protP_cons]
      split <;> rfl
    rw [if_neg (by omega), List.drop_eq_nil_of_le (by omega)]
    rfl
theorem ref04_Prot (l : List SM) (m : List SC) (b : Int) (p : List SP) (hp : p.length ≤ 1000000) (n : Int) (k : Nat) (hk : p.length < k) : ferryref04_Prot.f k l m b p n = some (protP p n) := ref04_Prot_l0 l m b p hp n k 0 (Nat.zero_le _) (by omega)
theorem hoR_eq {b n : Int} (hb : BaseG b) (n0 : 0 ≤ n) (n1 : n < 1048576) : IntKind.u64.wrap (Int.tdiv (IntKind.u64.wrap (b + (IntKind.u64.wrap ((IntKind.u64.wrap n) * 4096)))) 16384) = hoN b n := by
  have h0 := hb.b0
  have h1 := hb.b1
  have h2 := hb.b2
  unfold hoN
  rw [u64w n, u64w (_ * 4096), u64w (b + _), Int.tdiv_eq_ediv_of_nonneg (by omega), u64w]
  omega
theorem usedN_cons (x : SP) (p : List SP) (b a : Int) : usedN (x :: p) b a = (decide (hoN b x.f0 = a) || usedN p b a) := rfl
theorem ref04_used_l0 (l : List SM) (m : List SC) {b : Int} (hb : BaseG b) {p : List SP} (pp : ∀ x ∈ p, 0 ≤ x.f0 ∧ x.f0 < 1048576) (hp : p.length ≤ 1000000) (a : Int) : ∀ (k i : Nat), i ≤ p.length → p.length - i < k → ferryref04_used.l0 k a (i : Int) l m b p = some (usedN (p.drop i) b a)
  | 0, i, _, h => by omega
  | k + 1, i, hi, h => by
    unfold ferryref04_used.l0
    by_cases hlt : i < p.length
    · have hw : wrap64 ((i : Int) + 1) = ((i + 1 : Nat) : Int) := by unfold wrap64; omega
      have hx := pp _ (List.getElem_mem hlt)
      rw [if_pos (by omega), if_pos (by omega), pg_getR hlt, hw, hoR_eq hb hx.1 hx.2, ref04_used_l0 l m hb pp hp a k (i + 1) hlt (by omega), List.drop_eq_getElem_cons hlt, usedN_cons]
      by_cases h2 : hoN b p[i].f0 = a
      · rw [if_pos h2, decide_eq_true h2, Bool.true_or]
      rw [if_neg h2, decide_eq_false h2, Bool.false_or]
    rw [if_neg (by omega), List.drop_eq_nil_of_le (by omega)]
    rfl
theorem ref04_used (l : List SM) (m : List SC) {b : Int} (hb : BaseG b) {p : List SP} (pp : ∀ x ∈ p, 0 ≤ x.f0 ∧ x.f0 < 1048576) (hp : p.length ≤ 1000000) (a : Int) (k : Nat) (hk : p.length < k) : ferryref04_used.f k l m b p a = some (usedN p b a) := ref04_used_l0 l m hb pp hp a k 0 (Nat.zero_le _) (by omega)
theorem ref04_own (l : List SM) (m : List SC) {b : Int} (hb : BaseG b) (p : List SP) {a : Int} (a0 : 0 ≤ a) (a1 : a < 18446744073709551616) : ferryref04_own.f l m b p a = some (if b ≤ a ∧ a - b < 4294967296 then ((a - b) / 4096, true) else (0, false)) := by
  have h0 := hb.b0
  have h1 := hb.b1
  unfold ferryref04_own.f
  by_cases h : b ≤ a
  · rw [if_neg (by omega), u64w (a - b)]
    by_cases h2 : a - b < 4294967296
    · rw [if_neg (by omega), if_pos ⟨h, h2⟩, Int.tdiv_eq_ediv_of_nonneg (by omega), u64w, show (a - b) % 18446744073709551616 / 4096 % 18446744073709551616 % 4294967296 = (a - b) / 4096 by omega]
    rw [if_pos (by omega), if_neg (fun e => h2 e.2)]
  rw [if_pos (by omega), if_neg (fun e => h e.1)]
section
variable {l : List SM} {m : List SC} {b : Int} {p : List SP} {g : Bool}
theorem ref04_Fit_l2 (hg : g = true ↔ FitG l m b p) (FH : FitH l m) (B : BaseG b) (P : PagesG p) (pm : ∀ x ∈ p, has mpK (hoN b x.f0) l = true)
    (lm : ∀ y ∈ l, b ≤ y.f0 * 16384 → y.f0 * 16384 - b < 4294967296 → y.f1 = 3 ∧ ∃ x ∈ p, hoN b x.f0 = y.f0) : ∀ (k i : Nat), i ≤ m.length → (m.length - i) + p.length + 1 < k →
    (∀ (j : Nat) (hj : j < m.length), j < i → b ≤ m[j].f0 → m[j].f0 - b < 4294967296 → ∃ x ∈ p, x.f0 = (m[j].f0 - b) / 4096) → ferryref04_Fit.l2 k (i : Int) l m b p = some g
  | 0, i, _, h, _ => by omega
  | k + 1, i, hi, h, hn => by
    unfold ferryref04_Fit.l2
    have hm := FH.mn
    have hpn := P.pn
    by_cases hlt : i < m.length
    · have hw : wrap64 ((i : Int) + 1) = ((i + 1 : Nat) : Int) := by unfold wrap64; omega
      have hx := FH.mp _ (List.getElem_mem hlt)
      rw [if_pos (by omega), if_pos (by omega), cl_getR hlt, hw, ref04_own l m B p hx.1 hx.2.1, Option.bind_some]
      have go : (b ≤ m[i].f0 → m[i].f0 - b < 4294967296 → ∃ x ∈ p, x.f0 = (m[i].f0 - b) / 4096) → ferryref04_Fit.l2 k ((i + 1 : Nat) : Int) l m b p = some g := fun hc =>
        ref04_Fit_l2 hg FH B P pm lm k (i + 1) hlt (by omega) (fun j hj hji => by
          rcases Nat.lt_or_ge j i with h1 | h1
          · exact hn j hj h1
          · obtain rfl : j = i := by omega
            exact hc)
      by_cases ha : b ≤ m[i].f0 ∧ m[i].f0 - b < 4294967296
      · rw [if_pos ha, if_pos rfl, ref04_Prot l m b p (by omega) _ k (by omega), Option.bind_some]
        have hd := protP_neg P.pr (fun x hx => (P.pp x hx).2.2.1) ((m[i].f0 - b) / 4096)
        cases hh : has pgK ((m[i].f0 - b) / 4096) p with
        | true =>
          rw [hh] at hd
          obtain ⟨x, hx, e⟩ := has_mem.1 hh
          rw [if_neg (of_decide_eq_false hd)]
          exact go (fun _ _ => ⟨x, hx, e⟩)
        | false =>
          rw [hh] at hd
          rw [if_pos (of_decide_eq_true hd)]
          refine congrArg some (Eq.symm (Bool.eq_false_iff.2 (fun e => ?_)))
          obtain ⟨x, hx, e2⟩ := (hg.1 e).cm _ (List.getElem_mem hlt) ha.1 ha.2
          rw [has_mem.2 ⟨x, hx, e2⟩] at hh
          cases hh
      rw [if_neg ha, if_neg (by simp)]
      exact go (fun h1 h2 => absurd ⟨h1, h2⟩ ha)
    rw [if_neg (by omega)]
    refine congrArg some (Eq.symm (hg.2 ⟨FH, B, P, pm, lm, fun c hc => ?_⟩))
    obtain ⟨j, hj, rfl⟩ := List.getElem_of_mem hc
    exact hn j hj (by omega)
theorem ref04_Fit_l1 (hg : g = true ↔ FitG l m b p) (FH : FitH l m) (B : BaseG b) (P : PagesG p) (pm : ∀ x ∈ p, has mpK (hoN b x.f0) l = true) : ∀ (k i : Nat), i ≤ l.length → (l.length - i) + m.length + p.length + 2 < k →
    (∀ (j : Nat) (hj : j < l.length), j < i → b ≤ l[j].f0 * 16384 → l[j].f0 * 16384 - b < 4294967296 → l[j].f1 = 3 ∧ ∃ x ∈ p, hoN b x.f0 = l[j].f0) → ferryref04_Fit.l1 k (i : Int) l m b p = some g
  | 0, i, _, h, _ => by omega
  | k + 1, i, hi, h, hn => by
    unfold ferryref04_Fit.l1
    have hm := FH.ln
    have hpn := P.pn
    by_cases hlt : i < l.length
    · have hw : wrap64 ((i : Int) + 1) = ((i + 1 : Nat) : Int) := by unfold wrap64; omega
      have hx := FH.lp _ (List.getElem_mem hlt)
      rw [if_pos (by omega), if_pos (by omega), mp_getR hlt, hw, u64w, show l[i].f0 * 16384 % 18446744073709551616 = l[i].f0 * 16384 by omega, ref04_own l m B p (by omega) (by omega), Option.bind_some]
      have go : (b ≤ l[i].f0 * 16384 → l[i].f0 * 16384 - b < 4294967296 → l[i].f1 = 3 ∧ ∃ x ∈ p, hoN b x.f0 = l[i].f0) → ferryref04_Fit.l1 k ((i + 1 : Nat) : Int) l m b p = some g := fun hc =>
        ref04_Fit_l1 hg FH B P pm k (i + 1) hlt (by omega) (fun j hj hji => by
          rcases Nat.lt_or_ge j i with h1 | h1
          · exact hn j hj h1
          · obtain rfl : j = i := by omega
            exact hc)
      have no : ∀ (ha : b ≤ l[i].f0 * 16384 ∧ l[i].f0 * 16384 - b < 4294967296), ¬ (l[i].f1 = 3 ∧ ∃ x ∈ p, hoN b x.f0 = l[i].f0) → some false = some g := fun ha hh =>
        congrArg some (Eq.symm (Bool.eq_false_iff.2 (fun e => hh ((hg.1 e).lm _ (List.getElem_mem hlt) ha.1 ha.2))))
      by_cases ha : b ≤ l[i].f0 * 16384 ∧ l[i].f0 * 16384 - b < 4294967296
      · rw [if_pos ha, if_pos rfl]
        by_cases h3 : l[i].f1 = 3
        · rw [if_pos h3, ref04_used l m B (fun x hx => ⟨(P.pp x hx).1, (P.pp x hx).2.1⟩) (by omega) _ k (by omega), Option.bind_some]
          cases hu : usedN p b l[i].f0 with
          | true =>
            rw [if_pos rfl]
            exact go (fun _ _ => ⟨h3, usedN_iff.1 hu⟩)
          | false =>
            rw [if_neg (by decide)]
            exact no ha (fun e => by rw [usedN_iff.2 e.2] at hu; cases hu)
        rw [if_neg h3]
        exact no ha (fun e => h3 e.1)
      rw [if_neg ha, if_neg (by simp)]
      exact go (fun h1 h2 => absurd ⟨h1, h2⟩ ha)
    rw [if_neg (by omega)]
    refine ref04_Fit_l2 hg FH B P pm (fun y hy => ?_) k 0 (Nat.zero_le _) (by omega) (fun j _ hj => by omega)
    obtain ⟨j, hj, rfl⟩ := List.getElem_of_mem hy
    exact hn j hj (by omega)
theorem ref04_Fit_l0 (hg : g = true ↔ FitG l m b p) (FH : FitH l m) (B : BaseG b) (hpn : p.length ≤ 256) (wp : ∀ x ∈ p, wfP x) : ∀ (k i : Nat), i ≤ p.length → 2 * (p.length - i) + l.length + m.length + p.length + 3 < k →
    (∀ (j : Nat) (hj : j < p.length), j < i → (p[j].f0 < 1048576 ∧ 0 ≤ p[j].f1 ∧ p[j].f1 ≤ 7) ∧ prevGe pgK p j (pgK p[j]) = false ∧ has mpK (hoN b p[j].f0) l = true) → ferryref04_Fit.l0 k (i : Int) l m b p = some g
  | 0, i, _, h, _ => by omega
  | k + 1, i, hi, h, hn => by
    unfold ferryref04_Fit.l0
    have hm := FH.ln
    by_cases hlt : i < p.length
    · have hw : wrap64 ((i : Int) + 1) = ((i + 1 : Nat) : Int) := by unfold wrap64; omega
      have hx : (0 ≤ p[i].f0 ∧ p[i].f0 ≤ 4294967295) ∧ _ := wp _ (List.getElem_mem hlt)
      obtain ⟨k, rfl⟩ : ∃ q, k = q + 1 := ⟨k - 1, by omega⟩
      have hj2 : ∀ t f0 f1, ferryref04_Fit.j2 (k + 1) (i : Int) t l m b p f0 f1 = if t = true then some false else (ferryref03_Place.f k l m (IntKind.u64.wrap (Int.tdiv (IntKind.u64.wrap (b + (IntKind.u64.wrap ((IntKind.u64.wrap f0) * 4096)))) 16384))).bind fun t115 => (if t115 < 0 then (some false) else (ferryref04_Fit.l0 k (wrap64 ((i : Int) + 1)) l m b p)) := fun t f0 f1 => rfl
      have no : ¬ ((p[i].f0 < 1048576 ∧ 0 ≤ p[i].f1 ∧ p[i].f1 ≤ 7) ∧ prevGe pgK p i (pgK p[i]) = false ∧ has mpK (hoN b p[i].f0) l = true) → some false = some g := fun hh =>
        congrArg some (Eq.symm (Bool.eq_false_iff.2 (fun e => hh (by
          have hf := hg.1 e
          have hy := hf.pages.pp _ (List.getElem_mem hlt)
          exact ⟨hy.2, (rises_prev p).1 hf.pages.pr i hlt, hf.pm _ (List.getElem_mem hlt)⟩))))
      rw [if_pos (by omega), if_pos (by omega), pg_getR hlt]
      by_cases h1 : p[i].f0 ≥ 1048576
      · rw [if_pos h1, hj2, if_pos rfl]
        exact no (fun e => by omega)
      rw [if_neg h1]
      by_cases h2 : p[i].f1 < 0
      · rw [if_pos h2, hj2, if_pos rfl]
        exact no (fun e => by omega)
      rw [if_neg h2]
      by_cases h3 : p[i].f1 > 7
      · rw [if_pos h3, hj2, if_pos rfl]
        exact no (fun e => by omega)
      have hj3 : ∀ t, ferryref04_Fit.j2 (k + 1) (i : Int) t l m b p p[i].f0 p[i].f1 = if t = true then some false else (if placeR l (hoN b p[i].f0) < 0 then some false else ferryref04_Fit.l0 k ((i + 1 : Nat) : Int) l m b p) := fun t => by
        rw [hj2, hw, hoR_eq B hx.1.1 (by omega), ref_place _ l m (by omega) k (by omega), Option.bind_some]
      rw [if_neg h3]
      have hpl := placeR_has l (hoN b p[i].f0)
      have go : prevGe pgK p i (pgK p[i]) = false → (if placeR l (hoN b p[i].f0) < 0 then some false else ferryref04_Fit.l0 k ((i + 1 : Nat) : Int) l m b p) = some g := fun hpv => by
        cases hh : has mpK (hoN b p[i].f0) l with
        | false =>
          rw [hh] at hpl
          rw [if_pos (of_decide_eq_true hpl)]
          exact no (fun e => by rw [hh] at e; cases e.2.2)
        | true =>
          rw [hh] at hpl
          rw [if_neg (of_decide_eq_false hpl)]
          exact ref04_Fit_l0 hg FH B hpn wp k (i + 1) hlt (by omega) (fun j hj hji => by
            rcases Nat.lt_or_ge j i with h4 | h4
            · exact hn j hj h4
            · obtain rfl : j = i := by omega
              exact ⟨⟨by omega, by omega, by omega⟩, hpv, hh⟩)
      by_cases hi0 : (i : Int) > 0
      · obtain ⟨i, rfl⟩ : ∃ q, i = q + 1 := ⟨i - 1, by omega⟩
        have hw2 : wrap64 (((i + 1 : Nat) : Int) - 1) = ((i : Nat) : Int) := by unfold wrap64; omega
        have hpv : prevGe pgK p (i + 1) (pgK p[i + 1]) = decide ((p[i]'(by omega)).f0 ≥ p[i + 1].f0) := prevGe_succ pgK p i (by omega) _
        rw [if_pos hi0, hw2, if_pos (by omega), if_pos (by omega), pg_getR (by omega), hj3]
        rw [hpv] at go
        by_cases h4 : (p[i]'(by omega)).f0 ≥ p[i + 1].f0
        · rw [decide_eq_true h4, if_pos rfl]
          exact no (fun e => by rw [hpv, decide_eq_true h4] at e; cases e.2.1)
        rw [decide_eq_false h4, if_neg (by decide)]
        exact go (decide_eq_false h4)
      rw [if_neg hi0, hj3, if_neg (by decide)]
      refine go ?_
      obtain rfl : i = 0 := by omega
      rfl
    rw [if_neg (by omega)]
    have hi2 : ∀ (j : Nat) (hj : j < p.length), _ := fun j hj => hn j hj (by omega)
    have P : PagesG p := ⟨hpn, (rises_prev p).2 (fun j hj => (hi2 j hj).2.1), fun x hx => by
      obtain ⟨j, hj, rfl⟩ := List.getElem_of_mem hx
      have hx2 : (0 ≤ p[j].f0 ∧ p[j].f0 ≤ 4294967295) ∧ _ := wp _ hx
      exact ⟨hx2.1.1, (hi2 j hj).1⟩⟩
    refine ref04_Fit_l1 hg FH B P (fun x hx => ?_) k 0 (Nat.zero_le _) (by omega) (fun j _ hj => by omega)
    obtain ⟨j, hj, rfl⟩ := List.getElem_of_mem hx
    exact (hi2 j hj).2.2
end
theorem ref04_Fit {l : List SM} {m : List SC} {b : Int} {p : List SP} (wl : ∀ x ∈ l, wfM x) (wm : ∀ x ∈ m, wfC x) (b0 : 0 ≤ b) (b1 : b ≤ 18446744073709551615) (wp : ∀ x ∈ p, wfP x) (hl : l.length ≤ 1000000) (hm : m.length ≤ 1000000) (k : Nat) (hk : 3 * p.length + l.length + m.length + 5 < k) :
    ferryref04_Fit.f k l m b p = some (gfitB l m b p) := by
  have hg := gfitB_iff (p := p) wl wm b0 b1 wp
  generalize gfitB l m b p = g at hg ⊢
  unfold ferryref04_Fit.f
  obtain ⟨k, rfl⟩ : ∃ q, k = q + 1 := ⟨k - 1, by omega⟩
  have hj0 : ∀ t, ferryref04_Fit.j0 (k + 1) t l m b p = if t = true then some false else ferryref04_Fit.l0 k 0 l m b p := fun t => rfl
  rw [ref_Fit_spec l m ⟨hl, hm⟩, Option.bind_some, hj0, hj0, if_pos rfl]
  have no : ¬ FitG l m b p → some false = some g := fun hh => congrArg some (Eq.symm (Bool.eq_false_iff.2 (fun e => hh (hg.1 e))))
  by_cases hf : fitR l m = true
  rotate_left
  · rw [if_neg hf]
    exact no (fun e => hf e.h.fitR)
  rw [if_pos hf, Int.tmod_eq_emod_of_nonneg b0]
  by_cases h1 : b % 16384 = 0
  rotate_left
  · rw [if_neg h1]
    exact no (fun e => h1 e.base.b2)
  rw [if_pos h1]
  by_cases h2 : b > 4611686018427387904
  · rw [if_pos h2]
    exact no (fun e => by have := e.base.b1; omega)
  rw [if_neg h2]
  by_cases h3 : (p.length : Int) > 256
  · rw [decide_eq_true h3, if_pos rfl]
    exact no (fun e => by have := e.pages.pn; omega)
  rw [decide_eq_false h3, if_neg (by decide)]
  exact ref04_Fit_l0 hg ((fitR_iff wl wm).1 hf) ⟨b0, by omega, h1⟩ (by omega) wp k 0 (Nat.zero_le _) (by omega) (fun j _ hj => by omega)
def eqPg (x y : SP) : Bool := (x.f0 == y.f0) && (x.f1 == y.f1)
def sameG (l : List SM) (m : List SC) (b : Int) (p : List SP) (l' : List SM) (m' : List SC) (b' : Int) (p' : List SP) : Bool := sameS l m l' m' && (decide (b = b') && eqL eqPg p p')
theorem sameG_refl (l : List SM) (m : List SC) (b : Int) (p : List SP) : sameG l m b p l m b p = true := by
  unfold sameG
  rw [sameS_refl, decide_eq_true rfl, eqL_refl (fun x => by unfold eqPg; simp) p]
  rfl
theorem ref04_Same_l0 (l : List SM) (m : List SC) (b : Int) (p : List SP) (l' : List SM) (m' : List SC) (b' : Int) (p' : List SP) (e : p.length = p'.length) (hp : p.length ≤ 1000000) : ∀ (k i : Nat), i ≤ p.length → p.length - i < k → ferryref04_Same.l0 k (i : Int) l m b p l' m' b' p' = some (eqL eqPg (p.drop i) (p'.drop i))
  | 0, i, _, h => by omega
  | k + 1, i, hi, h => by
    unfold ferryref04_Same.l0
    by_cases hlt : i < p.length
    · have hw : wrap64 ((i : Int) + 1) = ((i + 1 : Nat) : Int) := by unfold wrap64; omega
      rw [if_pos (by omega), if_pos (by omega), if_pos (by omega), pg_getR hlt, pg_getR (by omega), hw, ref04_Same_l0 l m b p l' m' b' p' e hp k (i + 1) hlt (by omega), List.drop_eq_getElem_cons hlt, List.drop_eq_getElem_cons (show i < p'.length by omega)]
      rw [show eqL eqPg (p[i] :: p.drop (i + 1)) (p'[i] :: p'.drop (i + 1)) = (eqPg p[i] p'[i] && eqL eqPg (p.drop (i + 1)) (p'.drop (i + 1))) from rfl]
      unfold eqPg
      cases (p[i].f0 == p'[i].f0) <;> cases (p[i].f1 == p'[i].f1) <;> rfl
    rw [if_neg (by omega), List.drop_eq_nil_of_le (by omega), List.drop_eq_nil_of_le (by omega)]
    rfl
theorem ref04_Same (l : List SM) (m : List SC) (b : Int) (p : List SP) (l' : List SM) (m' : List SC) (b' : Int) (p' : List SP) (hl : l.length ≤ 1000000) (hm : m.length ≤ 1000000) (hp : p.length ≤ 1000000) (k : Nat) (hk : l.length + m.length + p.length + 3 < k) :
    ferryref04_Same.f k l m b p l' m' b' p' = some (sameG l m b p l' m' b' p') := by
  unfold ferryref04_Same.f sameG
  obtain ⟨k, rfl⟩ : ∃ q, k = q + 1 := ⟨k - 1, by omega⟩
  have hj0 : ∀ t, ferryref04_Same.j0 (k + 1) t l m b p l' m' b' p' = if t = true then some false else ferryref04_Same.l0 k 0 l m b p l' m' b' p' := fun t => rfl
  rw [ref_Same l m l' m' hl hm (k + 1) (by omega), Option.bind_some, hj0, hj0, if_pos rfl]
  cases hs : sameS l m l' m' with
  | false => rfl
  | true =>
    rw [if_pos rfl, Bool.true_and]
    by_cases hb : b = b'
    · rw [if_pos hb, decide_eq_true hb, Bool.true_and]
      by_cases e : p.length = p'.length
      · rw [bne_eq_false_iff_eq.2 (by omega), if_neg (by decide)]
        exact ref04_Same_l0 l m b p l' m' b' p' e hp k 0 (Nat.zero_le _) (by omega)
      rw [bne_iff_ne.2 (by omega), if_pos rfl]
      cases h : eqL eqPg p p' with
      | false => rfl
      | true => exact absurd (eqL_length h) e
    rw [if_neg hb, decide_eq_false hb, Bool.false_and]
end Go.Proofs.Ytgkjdpdmmlalcaa.F
end
section
namespace Go.Proofs.Ytgkjdpdmmlalcaa.F
open Go.RowKit Go.Shelf Go.Proofs.YtgkjdpdmmlalcaaW.PrintWords Go.Proofs.YtgkjdpdmmlalcaaW.PrintLast Go.Proofs.YtgkjdpdmmlalcaaW.PrintMore
set_option linter.unusedVariables false
set_option linter.unusedSimpArgs false
def wrongG (a n q : Int) : Bool := decide (n = 0 ∨ a ≥ 1048576 ∨ n > 1048576 - a ∨ q < 0 ∨ q > 7)
theorem wrongG_no {a n q : Int} (n0 : 0 ≤ n) (h : ¬ wrongG a n q = true) : 0 < n ∧ a + n ≤ 1048576 ∧ 0 ≤ q ∧ q ≤ 7 := by
  unfold wrongG at h
  have h2 : ¬ (n = 0 ∨ a ≥ 1048576 ∨ n > 1048576 - a ∨ q < 0 ∨ q > 7) := fun e => h (decide_eq_true e)
  omega
theorem gwrongS_eq {a n q : Int} (a0 : 0 ≤ a) (a1 : a < 4294967296) (n0 : 0 ≤ n) (n1 : n < 4294967296) (q0 : -9223372036854775808 ≤ q) (q1 : q ≤ 9223372036854775807) : gwrongS a n q = wrongG a n q := by
  unfold gwrongS guest_wrong.f wrongG
  by_cases h1 : n = 0
  · rw [if_pos h1, decide_eq_true (Or.inl h1)]
    rfl
  rw [if_neg h1]
  by_cases h2 : a > 1048576
  · rw [if_pos h2, decide_eq_true (Or.inr (Or.inl (by omega)))]
    rfl
  rw [if_neg h2]
  by_cases h3 : n > (1048576 - a) % 4294967296
  · rw [if_pos h3, decide_eq_true (Or.inr (Or.inr (Or.inl (by omega))))]
    rfl
  rw [if_neg h3, badProt_iff q0 q1]
  show (!decide (0 ≤ q ∧ q ≤ 7)) = _
  by_cases h4 : 0 ≤ q ∧ q ≤ 7
  · rw [decide_eq_true h4, decide_eq_false (by omega)]
    rfl
  rw [decide_eq_false h4, decide_eq_true (by omega)]
  rfl
theorem inP_eq {x : SP} {a n : Int} (x0 : 0 ≤ x.f0) (x1 : x.f0 < 4294967296) (a0 : 0 ≤ a) : inP x a n = decide (a ≤ x.f0 ∧ x.f0 - a < n) := by
  unfold inP
  rw [u32w]
  by_cases h : a ≤ x.f0
  · rw [decide_eq_true (show x.f0 ≥ a from h), Bool.true_and, show (x.f0 - a) % 4294967296 = x.f0 - a by omega]
    by_cases h2 : x.f0 - a < n
    · rw [decide_eq_true h2, decide_eq_true (show a ≤ x.f0 ∧ x.f0 - a < n from ⟨h, h2⟩)]
    rw [decide_eq_false h2, decide_eq_false (show ¬ (a ≤ x.f0 ∧ x.f0 - a < n) from fun e => h2 e.2)]
  rw [decide_eq_false (show ¬ x.f0 ≥ a from h), Bool.false_and, decide_eq_false (show ¬ (a ≤ x.f0 ∧ x.f0 - a < n) from fun e => h e.1)]
theorem moreG_length (a q : Int) (n : Nat) : (moreG a n q).length = n := by
  unfold moreG
  rw [List.length_map, List.length_range]
theorem moreG_succ (a q : Int) (n : Nat) : moreG a (n + 1) q = moreG a n q ++ [⟨(a + (n : Int)) % 4294967296, q⟩] := by
  unfold moreG
  rw [List.range_succ, List.map_append]
  rfl
def insG (l : List SP) (a n q : Int) : List SP := l.take (lowB pgK a l) ++ moreG a n.toNat q ++ l.drop (lowB pgK a l)
def mapStepL (p : List SP) (b : Int) (l : List SM) (a : Int) : Option (List SM) :=
  if usedN p b a = true then some l else if (mapS l [] a 1 3).2.2 = 0 then some (mapS l [] a 1 3).1 else none
def mapLoopL (p : List SP) (b : Int) : List Int → List SM → Option (List SM)
  | [], l => some l
  | a :: ps, l => (mapStepL p b l a).bind (mapLoopL p b ps)
theorem mapS_cells (l : List SM) (m : List SC) (a n q : Int) : mapS l m a n q = ((mapS l [] a n q).1, m, (mapS l [] a n q).2.2) := by
  unfold mapS
  repeat' split
  all_goals rfl
theorem mapLoop_L (p : List SP) (b : Int) (m : List SC) : ∀ (ps : List Int) (l : List SM), (∀ a ∈ ps, usedS p b a = usedN p b a) → mapLoop p b ps (l, m) = (mapLoopL p b ps l).map (fun x => (x, m))
  | [], l, _ => rfl
  | a :: ps, l, h => by
    have e1 : mapLoop p b (a :: ps) (l, m) = (mapStep p b (l, m) a).bind (mapLoop p b ps) := rfl
    have e2 : mapLoopL p b (a :: ps) l = (mapStepL p b l a).bind (mapLoopL p b ps) := rfl
    rw [e1, e2]
    unfold mapStep mapStepL
    rw [h a (List.mem_cons_self ..), mapS_cells l m]
    dsimp only
    split
    · exact mapLoop_L p b m ps l (fun x hx => h x (List.mem_cons_of_mem _ hx))
    · split
      · exact mapLoop_L p b m ps _ (fun x hx => h x (List.mem_cons_of_mem _ hx))
      · rfl
theorem hostsL_mem {lo hi x : Int} : x ∈ hostsL lo hi ↔ lo ≤ x ∧ x ≤ hi := by
  unfold hostsL
  rw [List.mem_map]
  constructor
  · rintro ⟨i, hi2, rfl⟩
    have := List.mem_range.1 hi2
    omega
  · rintro ⟨h1, h2⟩
    exact ⟨(x - lo).toNat, List.mem_range.2 (by omega), by omega⟩
def mapG (l : List SM) (m : List SC) (b : Int) (p : List SP) (a n q : Int) : List SM × List SC × List SP × Int :=
  if wrongG a n q = true then (l, m, p, 22)
  else if 256 - ((delS p a n).length : Int) < n then (l, m, p, 12)
  else match mapLoopL p b (hostsL (hoN b a) (hoN b (a + n - 1))) l with
    | none => (l, m, p, 105)
    | some l' => (l', clearS m (b + a * 4096) (n * 4096), insG (delS p a n) a n q, 0)
theorem dropC_eq {b a n : Int} (hb : BaseG b) (m : List SC) (a0 : 0 ≤ a) (n0 : 0 < n) (h : a + n ≤ 1048576) : dropC m b a n = clearS m (b + a * 4096) (n * 4096) := by
  have h0 := hb.b0
  have h1 := hb.b1
  unfold dropC
  rw [u32w, u64w (a * 4096 % _), u64w (b + _), u64w n, u64w (_ * 4096)]
  congr 1
  · omega
  · omega
theorem delS_mem {p : List SP} (P : PagesG p) {a n : Int} (a0 : 0 ≤ a) {x : SP} : x ∈ delS p a n ↔ x ∈ p ∧ ¬ (a ≤ x.f0 ∧ x.f0 - a < n) := by
  unfold delS
  rw [List.mem_filter]
  constructor
  · rintro ⟨h1, h2⟩
    have h3 := P.pp x h1
    rw [inP_eq h3.1 (by omega) a0] at h2
    exact ⟨h1, fun e => by rw [decide_eq_true e] at h2; cases h2⟩
  · rintro ⟨h1, h2⟩
    have h3 := P.pp x h1
    refine ⟨h1, ?_⟩
    rw [inP_eq h3.1 (by omega) a0, decide_eq_false h2]
    rfl
theorem delS_P {p : List SP} (P : PagesG p) (a n : Int) : PagesG (delS p a n) :=
  ⟨Nat.le_trans (List.length_filter_le _ _) P.pn, rises_filter pgK _ P.pr, fun x hx => P.pp x (List.mem_filter.1 hx).1⟩
theorem gMapS_eq {l : List SM} {m : List SC} {b : Int} {p : List SP} (hb : BaseG b) (P : PagesG p) {a n q : Int} (a0 : 0 ≤ a) (a1 : a < 4294967296) (n0 : 0 ≤ n) (n1 : n < 4294967296) (q0 : -9223372036854775808 ≤ q) (q1 : q ≤ 9223372036854775807) :
    gMapS l m b p a n q = mapG l m b p a n q := by
  have h0 := hb.b0
  have h2 := hb.b2
  unfold gMapS mapG
  rw [gwrongS_eq a0 a1 n0 n1 q0 q1]
  by_cases hw : wrongG a n q = true
  · rw [if_pos hw, if_pos hw]
  rw [if_neg hw, if_neg hw]
  have hn := wrongG_no n0 hw
  have hlen := (delS_P P a n).pn
  rw [show wrap64 (256 - ((delS p a n).length : Int)) % 4294967296 = 256 - ((delS p a n).length : Int) by unfold wrap64; omega]
  by_cases hf : 256 - ((delS p a n).length : Int) < n
  · rw [if_pos hf, if_pos hf]
  rw [if_neg hf, if_neg hf]
  have e1 : hiG b a n = hoN b (a + n - 1) := by
    unfold hiG
    rw [u32w (n - 1), u32w, show (a + (n - 1) % 4294967296) % 4294967296 = a + n - 1 by omega]
    exact hoS_eq hb (by omega) (by omega)
  rw [e1, hoS_eq hb a0 (by omega), dropC_eq hb m a0 hn.1 hn.2.1, mapLoop_L p b _ _ l (fun x hx => ?_)]
  · cases mapLoopL p b (hostsL (hoN b a) (hoN b (a + n - 1))) l <;> rfl
  · have hx2 := hostsL_mem.1 hx
    unfold hoN at hx2
    exact usedS_eq hb P.pr (fun x hx => ⟨(P.pp x hx).1, (P.pp x hx).2.1⟩) (by omega) (by omega)
theorem le_mono {α : Type} {f : Nat → Option α} (h : ∀ k, LeO (f k) (f (k + 1))) {k k' : Nat} (hk : k ≤ k') {r : α} (e : f k = some r) : f k' = some r := by
  obtain ⟨d, rfl⟩ : ∃ d, k' = k + d := ⟨k' - k, by omega⟩
  clear hk
  induction d with
  | zero => exact e
  | succ d ih => exact h (k + d) _ ih
end Go.Proofs.Ytgkjdpdmmlalcaa.F
end
section
namespace Go.Proofs.Ytgkjdpdmmlalcaa.F
open Go.RowKit Go.Shelf Go.Proofs.YtgkjdpdmmlalcaaW.PrintWords Go.Proofs.YtgkjdpdmmlalcaaW.PrintLast Go.Proofs.YtgkjdpdmmlalcaaW.PrintMore
set_option linter.unusedVariables false
set_option linter.unusedSimpArgs false
def unStepN (p2 : List SP) (b : Int) (st : List SM × List SC) (x : SP) : List SM × List SC :=
  if usedN p2 b (hoN b x.f0) = true then st else ((unmapS st.1 st.2 (hoN b x.f0) 1).1, (unmapS st.1 st.2 (hoN b x.f0) 1).2.1)
def unmapG (l : List SM) (m : List SC) (b : Int) (p : List SP) (a n : Int) : List SM × List SC × List SP × Int :=
  if wrongG a n 0 = true then (l, m, p, 22)
  else ((p.foldl (unStepN (delS p a n) b) (l, clearS m (b + a * 4096) (n * 4096))).1, (p.foldl (unStepN (delS p a n) b) (l, clearS m (b + a * 4096) (n * 4096))).2, delS p a n, 0)
theorem foldl_same {α β : Type} {f g : β → α → β} : ∀ {l : List α} {s : β}, (∀ x ∈ l, ∀ s, f s x = g s x) → l.foldl f s = l.foldl g s
  | [], s, _ => rfl
  | x :: l, s, h => by
    rw [List.foldl_cons, List.foldl_cons, h x (List.mem_cons_self ..)]
    exact foldl_same (fun y hy => h y (List.mem_cons_of_mem _ hy))
theorem gUnmapS_eq {l : List SM} {m : List SC} {b : Int} {p : List SP} (hb : BaseG b) (P : PagesG p) {a n : Int} (a0 : 0 ≤ a) (a1 : a < 4294967296) (n0 : 0 ≤ n) (n1 : n < 4294967296) : gUnmapS l m b p a n = unmapG l m b p a n := by
  unfold gUnmapS unmapG
  rw [gwrongS_eq a0 a1 n0 n1 (by decide) (by decide)]
  by_cases hw : wrongG a n 0 = true
  · rw [if_pos hw, if_pos hw]
  rw [if_neg hw, if_neg hw]
  have hn := wrongG_no n0 hw
  have D := delS_P P a n
  unfold unmapLoop
  rw [dropC_eq hb m a0 hn.1 hn.2.1, foldl_same (g := unStepN (delS p a n) b) (fun x hx s => ?_)]
  have hx2 := P.pp x hx
  have hm := hoN_mem hb hx2.1 hx2.2.1
  unfold unmapStep unStepN
  rw [hoS_eq hb hx2.1 hx2.2.1, usedS_eq hb D.pr (fun x hx => ⟨(D.pp x hx).1, (D.pp x hx).2.1⟩) hm.1 hm.2]
theorem unStepN_fit {p2 : List SP} {b : Int} {st : List SM × List SC} (h : FitH st.1 st.2) (x : SP) : FitH (unStepN p2 b st x).1 (unStepN p2 b st x).2 := by
  unfold unStepN
  split
  · exact h
  · exact h.unmap _ _
theorem unfold_fit {p2 : List SP} {b : Int} : ∀ (p : List SP) {st : List SM × List SC}, FitH st.1 st.2 → FitH (p.foldl (unStepN p2 b) st).1 (p.foldl (unStepN p2 b) st).2
  | [], _, h => h
  | x :: p, _, h => unfold_fit p (unStepN_fit h x)
end Go.Proofs.Ytgkjdpdmmlalcaa.F
end
section
namespace Go.Proofs.Ytgkjdpdmmlalcaa.F
open Go.RowKit Go.Shelf Go.Proofs.YtgkjdpdmmlalcaaW.PrintWords Go.Proofs.YtgkjdpdmmlalcaaW.PrintLast Go.Proofs.YtgkjdpdmmlalcaaW.PrintMore
set_option linter.unusedVariables false
set_option linter.unusedSimpArgs false
theorem mem_ins {α : Type} {l m : List α} {i : Nat} {x : α} : x ∈ l.take i ++ m ++ l.drop i ↔ x ∈ l ∨ x ∈ m := by
  have h : x ∈ l ↔ x ∈ l.take i ∨ x ∈ l.drop i := by
    rw [← List.mem_append, List.take_append_drop]
  rw [List.mem_append, List.mem_append, h]
  exact ⟨fun h => h.elim (fun h => h.elim (fun h => .inl (.inl h)) .inr) (fun h => .inl (.inr h)), fun h => h.elim (fun h => h.elim (fun h => .inl (.inl h)) .inr) (fun h => .inl (.inr h))⟩
theorem withB_one {x a : Int} (x0 : 0 ≤ x) (x1 : x ≤ 18446744073709551615) (a0 : 0 ≤ a) : withB x a 1 = decide (x = a) := by
  rw [withB_eq x0 x1 a0]
  by_cases h : x = a
  · rw [decide_eq_true h, decide_eq_true (by omega)]
  rw [decide_eq_false h, decide_eq_false (by omega)]
theorem mapS1_ok {l : List SM} {m m' : List SC} (hF : FitH l m') {a : Int} (a0 : 0 ≤ a) (a1 : a < 1125899906842624) (h : (mapS l m a 1 3).2.2 = 0) : (∀ y, y ∈ (mapS l m a 1 3).1 ↔ y ∈ l ∨ y = ⟨a, 3⟩) ∧ ∀ y ∈ l, y.f0 ≠ a := by
  unfold mapS at h ⊢
  have hw : wrongS a 1 3 = false := by unfold wrongS; exact decide_eq_false (by omega)
  rw [hw, if_neg (by decide)] at h ⊢
  cases hany : l.any (fun x => withB x.f0 a 1) with
  | true => rw [hany, if_pos rfl] at h; cases h
  | false =>
    rw [hany, if_neg (by decide)] at h
    rw [if_neg (by decide)]
    by_cases hf : (1 : Int) > 64 - (l.length : Int)
    · rw [if_pos hf] at h
      cases h
    rw [if_neg hf]
    refine ⟨fun y => ?_, fun y hy e => ?_⟩
    · dsimp only
      rw [mem_ins]
      have e : moreP a (1 : Int).toNat 3 = [⟨a, 3⟩] := by
        show [(⟨IntKind.u64.wrap (a + ((0 : Nat) : Int)), 3⟩ : SM)] = _
        rw [u64w, show (a + ((0 : Nat) : Int)) % 18446744073709551616 = a by omega]
      rw [e, List.mem_singleton]
    · have h1 := List.any_eq_false.1 hany y hy
      have h2 := hF.lp y hy
      rw [withB_one h2.1 (by omega) a0] at h1
      exact h1 (decide_eq_true e)
theorem mapLoopL_spec {p : List SP} {b : Int} {m : List SC} : ∀ (ps : List Int) {l l' : List SM}, FitH l m → (∀ h ∈ ps, 0 ≤ h ∧ h < 1125899906842624) → mapLoopL p b ps l = some l' →
    FitH l' m ∧ (∀ y, y ∈ l' ↔ y ∈ l ∨ ∃ h ∈ ps, usedN p b h = false ∧ y = ⟨h, 3⟩) ∧ ∀ h ∈ ps, usedN p b h = false → ∀ y ∈ l, y.f0 ≠ h
  | [], l, l', hF, _, e => by
    obtain rfl : l = l' := Option.some.inj e
    exact ⟨hF, fun y => ⟨.inl, fun h => h.elim id (fun ⟨h, hh, _⟩ => nomatch hh)⟩, fun h hh => nomatch hh⟩
  | a :: ps, l, l', hF, hr, e => by
    have ha := hr a (List.mem_cons_self ..)
    have hr2 : ∀ h ∈ ps, 0 ≤ h ∧ h < 1125899906842624 := fun h hh => hr h (List.mem_cons_of_mem _ hh)
    have e2 : (mapStepL p b l a).bind (mapLoopL p b ps) = some l' := e
    clear e
    unfold mapStepL at e2
    cases hu : usedN p b a with
    | true =>
      rw [hu, if_pos rfl, Option.bind_some] at e2
      obtain ⟨h1, h2, h3⟩ := mapLoopL_spec ps hF hr2 e2
      refine ⟨h1, fun y => ?_, fun x hx hy => ?_⟩
      · rw [h2]
        constructor
        · rintro (h | ⟨x, hx, hy⟩)
          · exact .inl h
          · exact .inr ⟨x, List.mem_cons_of_mem _ hx, hy⟩
        · rintro (h | ⟨x, hx, hy⟩)
          · exact .inl h
          · rcases List.mem_cons.1 hx with rfl | hx
            · rw [hu] at hy
              cases hy.1
            · exact .inr ⟨x, hx, hy⟩
      · rcases List.mem_cons.1 hx with rfl | hx
        · rw [hu] at hy
          cases hy
        · exact h3 x hx hy
    | false =>
      rw [hu, if_neg (by decide)] at e2
      by_cases hc : (mapS l [] a 1 3).2.2 = 0
      · rw [if_pos hc, Option.bind_some] at e2
        have hF2 := hF.map (n := 1) (p := 3) ha.1
        rw [mapS_cells l m] at hF2
        obtain ⟨h1, h2, h3⟩ := mapLoopL_spec ps hF2 hr2 e2
        obtain ⟨g1, g2⟩ := mapS1_ok hF ha.1 ha.2 hc
        refine ⟨h1, fun y => ?_, fun x hx hy => ?_⟩
        · rw [h2, g1]
          constructor
          · rintro ((h | h) | ⟨x, hx, hy⟩)
            · exact .inl h
            · exact .inr ⟨a, List.mem_cons_self .., hu, h⟩
            · exact .inr ⟨x, List.mem_cons_of_mem _ hx, hy⟩
          · rintro (h | ⟨x, hx, hy⟩)
            · exact .inl (.inl h)
            · rcases List.mem_cons.1 hx with rfl | hx
              · exact .inl (.inr hy.2)
              · exact .inr ⟨x, hx, hy⟩
        · rcases List.mem_cons.1 hx with rfl | hx
          · exact g2
          · exact fun y hy2 => h3 x hx hy y ((g1 y).2 (.inl hy2))
      rw [if_neg hc] at e2
      cases e2
theorem moreG_mem {a q : Int} {n : Nat} (a0 : 0 ≤ a) (h : a + (n : Int) ≤ 1048576) {x : SP} : x ∈ moreG a n q ↔ ∃ i : Nat, i < n ∧ x = ⟨a + (i : Int), q⟩ := by
  unfold moreG
  rw [List.mem_map]
  constructor
  · rintro ⟨i, hi, rfl⟩
    have hi2 := List.mem_range.1 hi
    exact ⟨i, hi2, by rw [show (a + (i : Int)) % 4294967296 = a + (i : Int) by omega]⟩
  · rintro ⟨i, hi, rfl⟩
    exact ⟨i, List.mem_range.2 hi, by rw [show (a + (i : Int)) % 4294967296 = a + (i : Int) by omega]⟩
theorem moreG_rises {a q : Int} (a0 : 0 ≤ a) : ∀ {n : Nat}, a + (n : Int) ≤ 1048576 → Rises pgK (moreG a n q)
  | 0, _ => trivial
  | n + 1, h => by
    rw [moreG_succ]
    refine rises_append pgK (moreG_rises a0 (by omega)) trivial (fun x hx y hy => ?_)
    obtain ⟨i, hi, rfl⟩ := (moreG_mem a0 (by omega)).1 hx
    rw [List.mem_singleton] at hy
    subst hy
    show a + (i : Int) < (a + (n : Int)) % 4294967296
    omega
theorem insG_mem {d : List SP} {a n q : Int} (a0 : 0 ≤ a) (n0 : 0 ≤ n) (h : a + n ≤ 1048576) {x : SP} : x ∈ insG d a n q ↔ x ∈ d ∨ ∃ i : Nat, (i : Int) < n ∧ x = ⟨a + (i : Int), q⟩ := by
  unfold insG
  rw [mem_ins, moreG_mem a0 (by omega)]
  exact ⟨fun h => h.imp_right (fun ⟨i, hi, e⟩ => ⟨i, by omega, e⟩), fun h => h.imp_right (fun ⟨i, hi, e⟩ => ⟨i, by omega, e⟩)⟩
theorem insG_P {p : List SP} (P : PagesG p) {a n q : Int} (a0 : 0 ≤ a) (hn : 0 < n ∧ a + n ≤ 1048576 ∧ 0 ≤ q ∧ q ≤ 7) (hf : ¬ 256 - ((delS p a n).length : Int) < n) : PagesG (insG (delS p a n) a n q) := by
  have D := delS_P P a n
  have hk : ∀ x ∈ delS p a n, x.f0 < a ∨ a + n ≤ x.f0 := fun x hx => by
    have := ((delS_mem P a0).1 hx).2
    omega
  generalize delS p a n = d at D hk hf ⊢
  have hd : ∀ y ∈ d.drop (lowB pgK a d), a + n ≤ y.f0 := fun y hy => by
    have h1 := drop_lowB pgK a D.pr y hy
    have h2 := hk y (List.mem_of_mem_drop hy)
    have h3 : pgK y = y.f0 := rfl
    omega
  refine ⟨?_, ?_, fun x hx => ?_⟩
  · have hL := lowB_le pgK a d
    unfold insG
    simp only [List.length_append, moreG_length, List.length_take, List.length_drop]
    omega
  · refine rises_append pgK (rises_append pgK (rises_left pgK (m := d.drop (lowB pgK a d)) (by rw [List.take_append_drop]; exact D.pr)) (moreG_rises a0 (by omega)) (fun x hx y hy => ?_)) (rises_right pgK (l := d.take (lowB pgK a d)) (by rw [List.take_append_drop]; exact D.pr)) (fun x hx y hy => ?_)
    · have h1 := take_lowB pgK a d x hx
      obtain ⟨i, hi, rfl⟩ := (moreG_mem a0 (by omega)).1 hy
      show pgK x < a + (i : Int)
      omega
    · have h1 := hd y hy
      have h3 : pgK y = y.f0 := rfl
      rcases List.mem_append.1 hx with hx | hx
      · have h2 := take_lowB pgK a d x hx
        omega
      · obtain ⟨i, hi, rfl⟩ := (moreG_mem a0 (by omega)).1 hx
        show a + (i : Int) < pgK y
        omega
  · rcases (insG_mem a0 (by omega) hn.2.1).1 hx with h | ⟨i, hi, rfl⟩
    · exact D.pp x h
    · refine ⟨?_, ?_, hn.2.2⟩
      · show 0 ≤ a + (i : Int)
        omega
      · show a + (i : Int) < 1048576
        omega
theorem mem_clear {m : List SC} {a n : Int} {c : SC} (h : c ∈ clearS m a n) : ∃ c' ∈ m, c = clrC a n c' ∧ c.f1 ≠ 0 := by
  unfold clearS at h
  obtain ⟨h1, h2⟩ := List.mem_filter.1 h
  obtain ⟨c', hc, rfl⟩ := List.mem_map.1 h1
  exact ⟨c', hc, rfl, by simpa using h2⟩
theorem mapG_cases (l : List SM) (m : List SC) (b : Int) (p : List SP) (a n q : Int) : ((mapG l m b p a n q).1 = l ∧ (mapG l m b p a n q).2.1 = m ∧ (mapG l m b p a n q).2.2.1 = p ∧ (mapG l m b p a n q).2.2.2 ≠ 0) ∨
    (¬ wrongG a n q = true ∧ ¬ 256 - ((delS p a n).length : Int) < n ∧ ∃ l', mapLoopL p b (hostsL (hoN b a) (hoN b (a + n - 1))) l = some l' ∧ mapG l m b p a n q = (l', clearS m (b + a * 4096) (n * 4096), insG (delS p a n) a n q, 0)) := by
  unfold mapG
  by_cases hw : wrongG a n q = true
  · rw [if_pos hw]
    exact .inl ⟨rfl, rfl, rfl, show (22 : Int) ≠ 0 by decide⟩
  rw [if_neg hw]
  by_cases hf : 256 - ((delS p a n).length : Int) < n
  · rw [if_pos hf]
    exact .inl ⟨rfl, rfl, rfl, show (12 : Int) ≠ 0 by decide⟩
  rw [if_neg hf]
  cases mapLoopL p b (hostsL (hoN b a) (hoN b (a + n - 1))) l with
  | none => exact .inl ⟨rfl, rfl, rfl, show (105 : Int) ≠ 0 by decide⟩
  | some l' => exact .inr ⟨hw, hf, l', rfl, rfl⟩
theorem hosts_bd {b a n : Int} (hb : BaseG b) (a0 : 0 ≤ a) (n0 : 0 < n) (h : a + n ≤ 1048576) : ∀ x ∈ hostsL (hoN b a) (hoN b (a + n - 1)), 0 ≤ x ∧ x < 1125899906842624 := fun x hx => by
  have h0 := hb.b0
  have h1 := hb.b1
  have h2 := hostsL_mem.1 hx
  unfold hoN at h2
  omega
theorem FitG.mapped {l : List SM} {m : List SC} {b : Int} {p : List SP} (h : FitG l m b p) {a n q : Int} (a0 : 0 ≤ a) (n0 : 0 ≤ n) (hw : ¬ wrongG a n q = true) (hf : ¬ 256 - ((delS p a n).length : Int) < n) {l' : List SM}
    (e : mapLoopL p b (hostsL (hoN b a) (hoN b (a + n - 1))) l = some l') : FitG l' (clearS m (b + a * 4096) (n * 4096)) b (insG (delS p a n) a n q) := by
  have hn := wrongG_no n0 hw
  have h0 := h.base.b0
  have h2 := h.base.b2
  obtain ⟨hF, hm, hnew⟩ := mapLoopL_spec _ h.h (hosts_bd h.base a0 hn.1 hn.2.1) e
  -- a page that was there is there, or one with its number is new
  have hold : ∀ x ∈ p, ∃ x' ∈ insG (delS p a n) a n q, x'.f0 = x.f0 := fun x hx => by
    by_cases hin : a ≤ x.f0 ∧ x.f0 - a < n
    · exact ⟨⟨a + ((x.f0 - a).toNat : Int), q⟩, (insG_mem a0 n0 hn.2.1).2 (.inr ⟨(x.f0 - a).toNat, by omega, rfl⟩), by show a + ((x.f0 - a).toNat : Int) = x.f0; omega⟩
    exact ⟨x, (insG_mem a0 n0 hn.2.1).2 (.inl ((delS_mem h.pages a0).2 ⟨hx, hin⟩)), rfl⟩
  refine ⟨hF.clear (by omega) (by omega), h.base, insG_P h.pages a0 hn hf, fun x hx => ?_, fun y hy ha hc => ?_, fun c hc ha hd => ?_⟩
  · rcases (insG_mem a0 n0 hn.2.1).1 hx with hx | ⟨i, hi, rfl⟩
    · obtain ⟨y, hy, e⟩ := has_mem.1 (h.pm x ((delS_mem h.pages a0).1 hx).1)
      exact has_mem.2 ⟨y, (hm y).2 (.inl hy), e⟩
    · show has mpK (hoN b (a + (i : Int))) l' = true
      cases hu : usedN p b (hoN b (a + (i : Int))) with
      | true =>
        obtain ⟨x, hx, e⟩ := usedN_iff.1 hu
        obtain ⟨y, hy, e2⟩ := has_mem.1 (h.pm x hx)
        exact has_mem.2 ⟨y, (hm y).2 (.inl hy), e2.trans e⟩
      | false => exact has_mem.2 ⟨⟨hoN b (a + (i : Int)), 3⟩, (hm _).2 (.inr ⟨_, hostsL_mem.2 (by unfold hoN; omega), hu, rfl⟩), rfl⟩
  · rcases (hm y).1 hy with hy | ⟨z, hz, hu, rfl⟩
    · obtain ⟨h3, x, hx, e⟩ := h.lm y hy ha hc
      obtain ⟨x', hx', e'⟩ := hold x hx
      exact ⟨h3, x', hx', by rw [e', e]⟩
    · have hz2 := hostsL_mem.1 hz
      refine ⟨rfl, ?_⟩
      have ha2 : b ≤ z * 16384 := ha
      show ∃ x ∈ insG (delS p a n) a n q, hoN b x.f0 = z
      by_cases hlow : 4 * (z - b / 16384) < a
      · exact ⟨⟨a + ((0 : Nat) : Int), q⟩, (insG_mem a0 n0 hn.2.1).2 (.inr ⟨0, by omega, rfl⟩), by show hoN b (a + ((0 : Nat) : Int)) = z; unfold hoN at hz2 ⊢; omega⟩
      refine ⟨⟨a + ((4 * (z - b / 16384) - a).toNat : Int), q⟩, (insG_mem a0 n0 hn.2.1).2 (.inr ⟨(4 * (z - b / 16384) - a).toNat, ?_, rfl⟩), ?_⟩
      · unfold hoN at hz2
        omega
      · show hoN b (a + ((4 * (z - b / 16384) - a).toNat : Int)) = z
        unfold hoN at hz2 ⊢
        omega
  · obtain ⟨c', hc', rfl, _⟩ := mem_clear hc
    obtain ⟨x, hx, e⟩ := h.cm c' hc' ha hd
    obtain ⟨x', hx', e'⟩ := hold x hx
    exact ⟨x', hx', by rw [e', e]; rfl⟩
theorem FitG.map {l : List SM} {m : List SC} {b : Int} {p : List SP} (h : FitG l m b p) {a n q : Int} (a0 : 0 ≤ a) (n0 : 0 ≤ n) : FitG (mapG l m b p a n q).1 (mapG l m b p a n q).2.1 b (mapG l m b p a n q).2.2.1 := by
  rcases mapG_cases l m b p a n q with ⟨e1, e2, e3, _⟩ | ⟨hw, hf, l', e, e1⟩
  · rw [e1, e2, e3]
    exact h
  · rw [e1]
    exact h.mapped a0 n0 hw hf e
def goneN (p p2 : List SP) (b h : Int) : Bool := usedN p b h && !usedN p2 b h
theorem unfold_spec {p2 : List SP} {b : Int} (hb : BaseG b) : ∀ (p : List SP) {l : List SM} {m : List SC}, (∀ x ∈ p, 0 ≤ x.f0 ∧ x.f0 < 1048576) → (∀ y ∈ l, wfM y) → (∀ c ∈ m, wfC c) →
    p.foldl (unStepN p2 b) (l, m) = (l.filter (fun y => !goneN p p2 b y.f0), m.filter (fun c => !goneN p p2 b (c.f0 / 16384)))
  | [], l, m, _, _, _ => by
    have e1 : l.filter (fun y => !goneN [] p2 b y.f0) = l := List.filter_eq_self.2 (fun _ _ => rfl)
    have e2 : m.filter (fun c => !goneN [] p2 b (c.f0 / 16384)) = m := List.filter_eq_self.2 (fun _ _ => rfl)
    rw [e1, e2]
    rfl
  | x :: p, l, m, hp, wl, wm => by
    have hx := hp x (List.mem_cons_self ..)
    have hp2 : ∀ x ∈ p, 0 ≤ x.f0 ∧ x.f0 < 1048576 := fun y hy => hp y (List.mem_cons_of_mem _ hy)
    have h0 := hb.b0
    have h1 := hb.b1
    rw [List.foldl_cons]
    by_cases hu : usedN p2 b (hoN b x.f0) = true
    · have key : ∀ h, goneN (x :: p) p2 b h = goneN p p2 b h := fun h => by
        unfold goneN
        rw [usedN_cons]
        by_cases e : hoN b x.f0 = h
        · rw [← e, hu]
          simp
        rw [decide_eq_false e, Bool.false_or]
      have e : unStepN p2 b (l, m) x = (l, m) := by
        unfold unStepN
        rw [if_pos hu]
      rw [e, unfold_spec (p2 := p2) hb p hp2 wl wm]
      simp only [key]
    have hw : wrongS (hoN b x.f0) 1 0 = false := by unfold wrongS hoN; exact decide_eq_false (by omega)
    have hh : 0 ≤ hoN b x.f0 := by unfold hoN; omega
    have key : ∀ h, goneN (x :: p) p2 b h = (decide (h = hoN b x.f0) || goneN p p2 b h) := fun h => by
      unfold goneN
      rw [usedN_cons]
      by_cases e : hoN b x.f0 = h
      · rw [← e, Bool.eq_false_iff.2 hu]
        simp
      rw [decide_eq_false e, decide_eq_false (fun h9 => e h9.symm), Bool.false_or, Bool.false_or]
    have e : unStepN p2 b (l, m) x = (l.filter (fun y => !withB y.f0 (hoN b x.f0) 1), m.filter (fun c => !withB (c.f0 / 16384) (hoN b x.f0) 1)) := by
      unfold unStepN unmapS
      rw [if_neg hu, hw, if_neg (by decide)]
    rw [e, unfold_spec (p2 := p2) hb p (l := l.filter (fun y => !withB y.f0 (hoN b x.f0) 1)) (m := m.filter (fun c => !withB (c.f0 / 16384) (hoN b x.f0) 1)) hp2 (fun y hy => wl y (List.mem_filter.1 hy).1) (fun y hy => wm y (List.mem_filter.1 hy).1), List.filter_filter, List.filter_filter]
    simp only [key]
    congr 1
    · refine List.filter_congr (fun y hy => ?_)
      have hy2 : (0 ≤ y.f0 ∧ y.f0 ≤ 18446744073709551615) ∧ _ := wl y hy
      rw [withB_one hy2.1.1 hy2.1.2 hh, Bool.not_or, Bool.and_comm]
    · refine List.filter_congr (fun y hy => ?_)
      have hy2 : (0 ≤ y.f0 ∧ y.f0 ≤ 18446744073709551615) ∧ _ := wm y hy
      rw [withB_one (by omega) (by omega) hh, Bool.not_or, Bool.and_comm]
theorem clear_wm {l : List SM} {m : List SC} (h : FitH l m) {a n : Int} (a0 : 0 ≤ a) (n0 : 0 ≤ n) : ∀ c ∈ clearS m a n, wfC c := (h.clear a0 n0).wm
theorem unmapG_eq {l : List SM} {m : List SC} {b : Int} {p : List SP} (h : FitG l m b p) {a n : Int} (a0 : 0 ≤ a) (n0 : 0 ≤ n) : unmapG l m b p a n = if wrongG a n 0 = true then (l, m, p, 22)
    else (l.filter (fun y => !goneN p (delS p a n) b y.f0), (clearS m (b + a * 4096) (n * 4096)).filter (fun c => !goneN p (delS p a n) b (c.f0 / 16384)), delS p a n, 0) := by
  have h0 := h.base.b0
  unfold unmapG
  split
  · rfl
  · rw [unfold_spec h.base p (fun x hx => ⟨(h.pages.pp x hx).1, (h.pages.pp x hx).2.1⟩) h.h.wl (clear_wm h.h (by omega) (by omega))]
theorem clr_all {l : List SM} {m : List SC} (h : FitH l m) {a n : Int} (a0 : 0 ≤ a) (n0 : 0 ≤ n) {c : SC} (hc : c ∈ m) (h1 : a ≤ c.f0) (h2 : c.f0 + 8 ≤ a + n) : (clrC a n c).f1 = 0 := by
  have hm := h.mp c hc
  obtain ⟨y, hy⟩ : ∃ y : Nat, c.f0 = (y : Int) := ⟨c.f0.toNat, by omega⟩
  obtain ⟨v, hv⟩ : ∃ v : Nat, c.f1 = (v : Int) := ⟨c.f1.toNat, by omega⟩
  obtain ⟨a, rfl⟩ : ∃ z : Nat, a = (z : Int) := ⟨a.toNat, by omega⟩
  obtain ⟨n, rfl⟩ : ∃ z : Nat, n = (z : Int) := ⟨n.toNat, by omega⟩
  have h8 : c.f0 % 8 = 0 := hm.2.2.1
  obtain ⟨q, hq, he, hk⟩ := clrW_spec (y := y) (w := v) (by omega) (by rw [p256_8]; omega) a n 8 (Nat.le_refl _)
  have e : (clrC (a : Int) (n : Int) c).f1 = clrW (a : Int) (n : Int) c.f0 c.f1 8 := rfl
  rw [e, hy, hv, he]
  have : q = 0 := word_ext hq (by decide) (fun k hk8 => by
    rw [hk k hk8, if_pos (by omega)]
    unfold byteAt
    simp)
  rw [this]
  rfl
theorem FitG.unmap {l : List SM} {m : List SC} {b : Int} {p : List SP} (h : FitG l m b p) {a n : Int} (a0 : 0 ≤ a) (n0 : 0 ≤ n) : FitG (unmapG l m b p a n).1 (unmapG l m b p a n).2.1 b (unmapG l m b p a n).2.2.1 := by
  have h0 := h.base.b0
  have h2 := h.base.b2
  have hF : FitH (unmapG l m b p a n).1 (unmapG l m b p a n).2.1 := by
    unfold unmapG
    split
    · exact h.h
    · exact unfold_fit p (st := (l, clearS m (b + a * 4096) (n * 4096))) (h.h.clear (by omega) (by omega))
  rw [unmapG_eq h a0 n0] at hF ⊢
  by_cases hw : wrongG a n 0 = true
  · rw [if_pos hw]
    exact h
  rw [if_neg hw] at hF ⊢
  have hn := wrongG_no n0 hw
  refine ⟨hF, h.base, delS_P h.pages a n, fun x hx => ?_, fun y hy ha hc => ?_, fun c hc ha hd => ?_⟩
  · obtain ⟨y, hy, e⟩ := has_mem.1 (h.pm x ((delS_mem h.pages a0).1 hx).1)
    have hk : mpK y = y.f0 := rfl
    refine has_mem.2 ⟨y, List.mem_filter.2 ⟨hy, ?_⟩, e⟩
    unfold goneN
    rw [show usedN (delS p a n) b y.f0 = true from usedN_iff.2 ⟨x, hx, by rw [← hk, e]⟩]
    simp
  · obtain ⟨hy1, hy2⟩ := List.mem_filter.1 hy
    obtain ⟨h3, hx⟩ := h.lm y hy1 ha hc
    refine ⟨h3, usedN_iff.1 ?_⟩
    unfold goneN at hy2
    rw [usedN_iff.2 hx] at hy2
    simpa using hy2
  · obtain ⟨hc1, _⟩ := List.mem_filter.1 hc
    obtain ⟨c', hc', rfl, hnz⟩ := mem_clear hc1
    have ec : (clrC (b + a * 4096) (n * 4096) c').f0 = c'.f0 := rfl
    rw [ec] at ha hd ⊢
    obtain ⟨x, hx, e⟩ := h.cm c' hc' ha hd
    refine ⟨x, (delS_mem h.pages a0).2 ⟨hx, fun hin => hnz ?_⟩, e⟩
    have hm := h.h.mp c' hc'
    exact clr_all h.h (by omega) (by omega) hc' (by omega) (by omega)
end Go.Proofs.Ytgkjdpdmmlalcaa.F
end
section
namespace Go.Proofs.Ytgkjdpdmmlalcaa.F
open Go.RowKit Go.Shelf Go.Proofs.YtgkjdpdmmlalcaaW.PrintWords Go.Proofs.YtgkjdpdmmlalcaaW.PrintLast Go.Proofs.YtgkjdpdmmlalcaaW.PrintMore
set_option linter.unusedVariables false
set_option linter.unusedSimpArgs false
theorem FitG.wp {l : List SM} {m : List SC} {b : Int} {p : List SP} (h : FitG l m b p) : ∀ x ∈ p, wfP x := fun x hx => by
  have := h.pages.pp x hx
  exact ⟨⟨by omega, by omega⟩, by omega, by omega⟩
theorem FitG.gfitB {l : List SM} {m : List SC} {b : Int} {p : List SP} (h : FitG l m b p) : F.gfitB l m b p = true := (gfitB_iff h.h.wl h.h.wm h.base.b0 (by have := h.base.b1; omega) h.wp).2 h
theorem FitG.ref {l : List SM} {m : List SC} {b : Int} {p : List SP} (h : FitG l m b p) (k : Nat) (hk : 200000 < k) : ferryref04_Fit.f k l m b p = some true := by
  have h1 := h.h.ln
  have h2 := h.h.mn
  have h3 := h.pages.pn
  rw [ref04_Fit h.h.wl h.h.wm h.base.b0 (by have := h.base.b1; omega) h.wp (by omega) (by omega) k (by omega), h.gfitB]
theorem FitG.same {l : List SM} {m : List SC} {b : Int} {p : List SP} (h : FitG l m b p) (k : Nat) (hk : 200000 < k) : ferryref04_Same.f k l m b p l m b p = some true := by
  have h1 := h.h.ln
  have h2 := h.h.mn
  have h3 := h.pages.pn
  rw [ref04_Same l m b p l m b p (by omega) (by omega) (by omega) k (by omega), sameG_refl]
theorem FitG.map_f {l : List SM} {m : List SC} {b : Int} {p : List SP} (h : FitG l m b p) {a n q : Int} (a0 : 0 ≤ a) (a1 : a < 4294967296) (n0 : 0 ≤ n) (n1 : n < 4294967296) (q0 : -9223372036854775808 ≤ q) (q1 : q ≤ 9223372036854775807) :
    guest_Map.f l m b p a n q = some ((mapG l m b p a n q).1, (mapG l m b p a n q).2.1, b, (mapG l m b p a n q).2.2.1, (mapG l m b p a n q).2.2.2) := by
  unfold guest_Map.f
  rw [if_pos (okGH_ok h.h h.pages.pr h.pages.pn a0 a1 n0 n1), gMapS_eq h.base h.pages a0 a1 n0 n1 q0 q1]
theorem FitG.unmap_f {l : List SM} {m : List SC} {b : Int} {p : List SP} (h : FitG l m b p) {a n : Int} (a0 : 0 ≤ a) (a1 : a < 4294967296) (n0 : 0 ≤ n) (n1 : n < 4294967296) :
    guest_Unmap.f l m b p a n = some ((unmapG l m b p a n).1, (unmapG l m b p a n).2.1, b, (unmapG l m b p a n).2.2.1, (unmapG l m b p a n).2.2.2) := by
  unfold guest_Unmap.f
  rw [if_pos (okGH_ok h.h h.pages.pr h.pages.pn a0 a1 n0 n1), gUnmapS_eq h.base h.pages a0 a1 n0 n1]
theorem rises_ext {α : Type} {key : α → Int} : ∀ {l l' : List α}, Rises key l → Rises key l' → (∀ x, x ∈ l ↔ x ∈ l') → l = l'
  | [], [], _, _, _ => rfl
  | [], y :: l', _, _, h => by cases (h y).2 (List.mem_cons_self ..)
  | x :: l, [], _, _, h => by cases (h x).1 (List.mem_cons_self ..)
  | x :: l, y :: l', hr, hr', h => by
    have h1 := rises_head key hr
    have h2 := rises_head key hr'
    have e : x = y := by
      rcases List.mem_cons.1 ((h x).1 (List.mem_cons_self ..)) with e | hx
      · exact e
      · rcases List.mem_cons.1 ((h y).2 (List.mem_cons_self ..)) with e | hy
        · exact e.symm
        · have h3 := h1 y hy
          have h4 := h2 x hx
          omega
    subst e
    congr 1
    refine rises_ext (rises_tail key hr) (rises_tail key hr') (fun z => ⟨fun hz => ?_, fun hz => ?_⟩)
    · rcases List.mem_cons.1 ((h z).1 (List.mem_cons_of_mem _ hz)) with e | h3
      · have h4 := h1 z hz
        rw [e] at h4
        omega
      · exact h3
    · rcases List.mem_cons.1 ((h z).2 (List.mem_cons_of_mem _ hz)) with e | h3
      · have h4 := h2 z hz
        rw [e] at h4
        omega
      · exact h3
theorem clr_none {l : List SM} {m : List SC} (h : FitH l m) {a n : Int} (a0 : 0 ≤ a) (n0 : 0 ≤ n) {c : SC} (hc : c ∈ m) (h1 : c.f0 + 8 ≤ a ∨ a + n ≤ c.f0) : clrC a n c = c := by
  have hm := h.mp c hc
  obtain ⟨y, hy⟩ : ∃ y : Nat, c.f0 = (y : Int) := ⟨c.f0.toNat, by omega⟩
  obtain ⟨v, hv⟩ : ∃ v : Nat, c.f1 = (v : Int) := ⟨c.f1.toNat, by omega⟩
  obtain ⟨a, rfl⟩ : ∃ z : Nat, a = (z : Int) := ⟨a.toNat, by omega⟩
  obtain ⟨n, rfl⟩ : ∃ z : Nat, n = (z : Int) := ⟨n.toNat, by omega⟩
  have h8 : c.f0 % 8 = 0 := hm.2.2.1
  obtain ⟨q, hq, he, hk⟩ := clrW_spec (y := y) (w := v) (by omega) (by rw [p256_8]; omega) a n 8 (Nat.le_refl _)
  have e : clrC (a : Int) (n : Int) c = ⟨c.f0, clrW (a : Int) (n : Int) c.f0 c.f1 8⟩ := rfl
  rw [e, hy, hv, he]
  have : q = v := word_ext hq (by rw [p256_8]; omega) (fun k hk8 => by
    rw [hk k hk8, if_neg (by omega)])
  rw [this]
  show (⟨(y : Int), (v : Int)⟩ : SC) = c
  rw [← hy, ← hv]
theorem clear_mem {l : List SM} {m : List SC} (h : FitH l m) {a n : Int} {c : SC} (hc : c ∈ m) (h1 : clrC a n c = c) : c ∈ clearS m a n := by
  unfold clearS
  refine List.mem_filter.2 ⟨List.mem_map.2 ⟨c, hc, h1⟩, ?_⟩
  have := h.mp c hc
  rw [show (c.f1 == 0) = false from beq_eq_false_iff_ne.2 (by omega)]
  rfl
end Go.Proofs.Ytgkjdpdmmlalcaa.F
end
section
namespace Go.Proofs.Ytgkjdpdmmlalcaa.F
open Go.RowKit Go.Shelf Go.Proofs.YtgkjdpdmmlalcaaW.PrintWords Go.Proofs.YtgkjdpdmmlalcaaW.PrintLast Go.Proofs.YtgkjdpdmmlalcaaW.PrintMore
set_option linter.unusedVariables false
set_option linter.unusedSimpArgs false
theorem map_unmap {l : List SM} {m : List SC} {b : Int} {p : List SP} (h : FitG l m b p) {a n q : Int} (a0 : 0 ≤ a) (n0 : 0 ≤ n) (hno : ∀ x ∈ p, ¬ (a ≤ x.f0 ∧ x.f0 - a < n)) (hw : ¬ wrongG a n q = true) (hf : ¬ 256 - ((delS p a n).length : Int) < n) {l' : List SM} (e : mapLoopL p b (hostsL (hoN b a) (hoN b (a + n - 1))) l = some l') :
    unmapG l' (clearS m (b + a * 4096) (n * 4096)) b (insG (delS p a n) a n q) a n = (l, m, p, 0) := by
  have hn := wrongG_no n0 hw
  have h0 := h.base.b0
  have h2 := h.base.b2
  have H2 := h.mapped a0 n0 hw hf e
  obtain ⟨hF, hm, hnew⟩ := mapLoopL_spec _ h.h (hosts_bd h.base a0 hn.1 hn.2.1) e
  have hw2 : ¬ wrongG a n 0 = true := by
    unfold wrongG
    rw [decide_eq_true_eq]
    omega
  have hd : delS (insG (delS p a n) a n q) a n = p := by
    refine rises_ext (key := pgK) (delS_P H2.pages a n).pr h.pages.pr (fun x => ?_)
    rw [delS_mem H2.pages a0, insG_mem a0 n0 hn.2.1, delS_mem h.pages a0]
    constructor
    · rintro ⟨hx | ⟨i, hi, rfl⟩, hk⟩
      · exact hx.1
      · exact absurd ⟨by show a ≤ a + (i : Int); omega, by show a + (i : Int) - a < n; omega⟩ hk
    · exact fun hx => ⟨.inl ⟨hx, hno x hx⟩, hno x hx⟩
  have used : ∀ z, usedN p b z = true → usedN (insG (delS p a n) a n q) b z = true := fun z hz => by
    obtain ⟨x, hx, ex⟩ := usedN_iff.1 hz
    exact usedN_iff.2 ⟨x, (insG_mem a0 n0 hn.2.1).2 (.inl ((delS_mem h.pages a0).2 ⟨hx, hno x hx⟩)), ex⟩
  have near : ∀ z, usedN (insG (delS p a n) a n q) b z = true → b ≤ z * 16384 ∧ z * 16384 - b < 4294967296 := fun z hz => by
    obtain ⟨x, hx, rfl⟩ := usedN_iff.1 hz
    have hp := H2.pages.pp x hx
    exact hoN_mem h.base hp.1 hp.2.1
  have hcell : ∀ c ∈ m, clrC (b + a * 4096) (n * 4096) c = c := fun c hc => by
    have hmc := h.h.mp c hc
    refine clr_none h.h (by omega) (by omega) hc ?_
    by_cases hr : b ≤ c.f0 ∧ c.f0 - b < 4294967296
    · obtain ⟨x, hx, ex⟩ := h.cm c hc hr.1 hr.2
      have := hno x hx
      omega
    omega
  have hclr : clearS m (b + a * 4096) (n * 4096) = m := by
    refine rises_ext (key := clK) (clear_rises h.h.mr _ _) h.h.mr (fun c => ⟨fun hc => ?_, fun hc => clear_mem h.h hc (hcell c hc)⟩)
    obtain ⟨c', hc', rfl, _⟩ := mem_clear hc
    rw [hcell c' hc']
    exact hc'
  rw [unmapG_eq H2 a0 n0, if_neg hw2, hd, hclr, hclr]
  congr 1
  · refine rises_ext (key := mpK) (rises_filter mpK _ hF.lr) h.h.lr (fun y => ?_)
    rw [List.mem_filter, hm]
    unfold goneN
    constructor
    · rintro ⟨hy | ⟨z, hz, hu, rfl⟩, hg⟩
      · exact hy
      · have hz2 := hostsL_mem.1 hz
        have hu2 : usedN (insG (delS p a n) a n q) b z = true := usedN_iff.2 (by
          by_cases hlow : 4 * (z - b / 16384) < a
          · exact ⟨⟨a + ((0 : Nat) : Int), q⟩, (insG_mem a0 n0 hn.2.1).2 (.inr ⟨0, by omega, rfl⟩), by show hoN b (a + ((0 : Nat) : Int)) = z; unfold hoN at hz2 ⊢; omega⟩
          refine ⟨⟨a + ((4 * (z - b / 16384) - a).toNat : Int), q⟩, (insG_mem a0 n0 hn.2.1).2 (.inr ⟨(4 * (z - b / 16384) - a).toNat, ?_, rfl⟩), ?_⟩
          · unfold hoN at hz2
            omega
          · show hoN b (a + ((4 * (z - b / 16384) - a).toNat : Int)) = z
            unfold hoN at hz2 ⊢
            omega)
        have hg2 : (!(usedN (insG (delS p a n) a n q) b z && !usedN p b z)) = true := hg
        rw [hu2, hu] at hg2
        cases hg2
    · intro hy
      refine ⟨.inl hy, ?_⟩
      cases hu : usedN (insG (delS p a n) a n q) b y.f0 with
      | false => rfl
      | true =>
        have hr := near _ hu
        rw [usedN_iff.2 (h.lm y hy hr.1 hr.2).2]
        rfl
  · congr 1
    refine List.filter_eq_self.2 (fun c hc => ?_)
    have hmc := h.h.mp c hc
    unfold goneN
    cases hu : usedN (insG (delS p a n) a n q) b (c.f0 / 16384) with
    | false => rfl
    | true =>
      have hr := near _ hu
      obtain ⟨x, hx, ex⟩ := h.cm c hc (by omega) (by omega)
      rw [usedN_iff.2 ⟨x, hx, by unfold hoN; omega⟩]
      rfl
end Go.Proofs.Ytgkjdpdmmlalcaa.F
end
section
namespace Go.Proofs.Ytgkjdpdmmlalcaa.F
open Go.RowKit Go.Shelf Go.Proofs.YtgkjdpdmmlalcaaW.PrintWords Go.Proofs.YtgkjdpdmmlalcaaW.PrintLast Go.Proofs.YtgkjdpdmmlalcaaW.PrintMore
set_option linter.unusedVariables false
set_option linter.unusedSimpArgs false
theorem awake06_60 : ferrylaw06_awake.f 60 = some true := by decide +kernel
theorem awake06 (k : Nat) (h : 60 ≤ k) : ferrylaw06_awake.f k = some true := le_mono (f := fun k => ferrylaw06_awake.f k) ferrylaw06_awake.mono h awake06_60
def cntN (a : Int) : Int := (a + 4095) / 4096
theorem cntN_bd {a : Int} (a0 : 0 ≤ a) (a1 : a < 4294967296) : 0 ≤ cntN a ∧ cntN a ≤ 1048576 := by
  unfold cntN
  omega
theorem cntN_pos {a : Int} (a0 : 0 < a) : 0 < cntN a := by
  unfold cntN
  omega
theorem count_f {a : Int} (a0 : 0 ≤ a) (a1 : a < 4294967296) : gmap_count.f a = some (cntN a) := by
  unfold gmap_count.f swap_Up.f cntN
  rw [if_neg (by decide), Int.tmod_eq_emod_of_nonneg a0]
  by_cases h : a % 4096 = 0
  · rw [if_pos h, Option.bind_some, if_pos rfl, Int.tdiv_eq_ediv_of_nonneg a0]
    congr 1
    omega
  rw [if_neg h]
  by_cases h2 : (a + (4096 - a % 4096) % 4294967296) % 4294967296 < a
  · rw [if_pos h2, Option.bind_some, if_neg (by decide)]
    congr 1
    omega
  rw [if_neg h2, Option.bind_some, if_pos rfl, Int.tdiv_eq_ediv_of_nonneg (Int.emod_nonneg _ (by decide))]
  congr 1
  omega
theorem any_ext {α : Type} {f g : α → Bool} : ∀ {l : List α}, (∀ x ∈ l, f x = g x) → l.any f = l.any g
  | [], _ => rfl
  | x :: l, h => by
    rw [List.any_cons, List.any_cons, h x (List.mem_cons_self ..), any_ext (fun y hy => h y (List.mem_cons_of_mem _ hy))]
def someN (p : List SP) (a n : Int) : Bool := p.any (fun x => decide (a ≤ x.f0 ∧ x.f0 - a < n))
theorem some_f (l : List SM) (m : List SC) (b : Int) {p : List SP} (P : PagesG p) {a n : Int} (a0 : 0 ≤ a) : gmap_some.f l m b p a n = some (someN p a n) := by
  unfold gmap_some.f
  have hpn := P.pn
  rw [if_pos (by omega)]
  congr 1
  unfold someN
  refine any_ext (fun x hx => ?_)
  have hx := P.pp x hx
  unfold inQ
  have hw : IntKind.u32.wrap (x.f0 - a) = (x.f0 - a) % 4294967296 := rfl
  rw [hw]
  by_cases h1 : a ≤ x.f0
  · rw [decide_eq_true (show x.f0 ≥ a from h1), Bool.and_true]
    congr 1
    apply propext
    constructor <;> intro h <;> omega
  rw [decide_eq_false (show ¬ x.f0 ≥ a from h1), Bool.and_false, decide_eq_false (fun h => h1 h.1)]
theorem someN_no {p : List SP} {a n : Int} (h : someN p a n = false) : ∀ x ∈ p, ¬ (a ≤ x.f0 ∧ x.f0 - a < n) := fun x hx hin => by
  unfold someN at h
  rw [List.any_eq_false] at h
  exact h x hx (decide_eq_true hin)
theorem nextP_none {p : List SP} {f e : Int} (h : nextP p f e = e) : ∀ x ∈ p, ¬ (f ≤ x.f0 ∧ x.f0 < e) := by
  induction p with
  | nil => intro x hx; cases hx
  | cons y p ih =>
    have h' : (if inWay y f e = true then y.f0 else nextP p f e) = e := h
    by_cases c : inWay y f e = true
    · rw [if_pos c] at h'
      unfold inWay at c
      rw [Bool.and_eq_true, decide_eq_true_iff, decide_eq_true_iff] at c
      omega
    rw [if_neg c] at h'
    intro x hx
    rcases List.mem_cons.1 hx with rfl | hx
    · intro hh
      refine c ?_
      unfold inWay
      rw [decide_eq_true (show x.f0 ≥ f from hh.1), decide_eq_true hh.2]
      rfl
    · exact ih h' x hx
theorem freeGo_spec {p : List SP} {low high n : Int} (l0 : 0 ≤ low) (n0 : 0 ≤ n) : ∀ (k : Nat) (e : Int), 0 ≤ e → e ≤ 458752 → e.toNat < k → ∃ r, freeGo p low high n k e = some r ∧ (r.2 = true → 0 ≤ r.1 ∧ r.1 + n ≤ 458752 ∧ ∀ x ∈ p, ¬ (r.1 ≤ x.f0 ∧ x.f0 - r.1 < n))
  | 0, e, _, _, h => absurd h (Nat.not_lt_zero _)
  | k + 1, e, e0, e1, hk => by
    rw [freeGo]
    by_cases h : n < e
    · rw [if_pos h]
      have hr := nextS_range (p := p) (high := high) l0 n0 h
      by_cases hn : nextS p low high n e = e
      · rw [if_pos hn]
        refine ⟨_, rfl, fun _ => ⟨by dsimp only; omega, by dsimp only; omega, ?_⟩⟩
        dsimp only
        have hp : nextP p (e - n) e = e := by
          unfold nextS at hn
          by_cases hb : heapB low high (e - n) e = true
          · rw [if_pos hb] at hn
            unfold heapB at hb
            rw [Bool.and_eq_true, Bool.and_eq_true, decide_eq_true_iff, decide_eq_true_iff, decide_eq_true_iff] at hb
            omega
          rwa [if_neg hb] at hn
        intro x hx hh
        exact nextP_none hp x hx (by omega)
      rw [if_neg hn]
      exact freeGo_spec l0 n0 k _ hr.1 (by omega) (by omega)
    rw [if_neg h]
    exact ⟨_, rfl, fun h => by cases h⟩
theorem free_f (l : List SM) (m : List SC) (b : Int) {p : List SP} (P : PagesG p) {st en n : Int} (s0 : 0 ≤ st) (s1 : st < 4294967296) (e0 : 0 ≤ en) (e1 : en < 4294967296) (n0 : 0 ≤ n) (n1 : n < 4294967296) :
    ∃ r, gmap_free.f l m b p st en n = some r ∧ (r.2 = true → 0 ≤ r.1 ∧ r.1 + n ≤ 458752 ∧ ∀ x ∈ p, ¬ (r.1 ≤ x.f0 ∧ x.f0 - r.1 < n)) := by
  unfold gmap_free.f
  have hpn := P.pn
  rw [if_pos ⟨by omega, n0, n1, s0, s1⟩, count_f e0 e1, Option.bind_some]
  exact freeGo_spec (Int.tdiv_nonneg s0 (by decide)) n0 460000 458752 (by decide) (by decide) (by decide)
theorem wrongG_u {a n : Int} (a0 : 0 ≤ a) (n0 : 0 < n) (h : a + n ≤ 1048576) : ¬ wrongG a n 0 = true := fun hw => by
  unfold wrongG at hw
  have := of_decide_eq_true hw
  omega
def BrkIs (l : List SM) (m : List SC) (b : Int) (p : List SP) (en a : Int) (l' : List SM) (m' : List SC) (p' : List SP) (en' : Int) : Prop :=
  (l' = l ∧ m' = m ∧ p' = p ∧ en' = en) ∨ (en' = a ∧ ((cntN a = cntN en ∧ l' = l ∧ m' = m ∧ p' = p) ∨ cntN a < cntN en ∨ (cntN en < cntN a ∧ unmapG l' m' b p' (cntN en) (cntN a - cntN en) = (l, m, p, 0))))
theorem brk_f {l : List SM} {m : List SC} {b : Int} {p : List SP} (h : FitG l m b p) {st en a : Int} (e0 : 0 ≤ en) (e1 : en < 4294967296) (a0 : 0 ≤ a) (a1 : a < 4294967296) (k : Nat) :
    ∃ l' m' p' en', gmap_Brk.f (k + 1) l m b p st en a = some (l', m', b, p', st, en', en') ∧ FitG l' m' b p' ∧ BrkIs l m b p en a l' m' p' en' ∧ (en' = en ∨ (en' = a ∧ st ≤ a)) ∧ (a < st → l' = l ∧ m' = m ∧ p' = p ∧ en' = en) ∧ (en' = a ∨ (l' = l ∧ m' = m ∧ p' = p)) := by
  have c0 := cntN_bd e0 e1
  have c1 := cntN_bd a0 a1
  unfold gmap_Brk.f
  rw [count_f e0 e1, Option.bind_some, count_f a0 a1, Option.bind_some]
  have same : ∃ l' m' p' en', (some (l, m, b, p, st, en, en) : Option (List SM × List SC × Int × List SP × Int × Int × Int)) = some (l', m', b, p', st, en', en') ∧ FitG l' m' b p' ∧ BrkIs l m b p en a l' m' p' en' ∧ (en' = en ∨ (en' = a ∧ st ≤ a)) ∧ (a < st → l' = l ∧ m' = m ∧ p' = p ∧ en' = en) ∧ (en' = a ∨ (l' = l ∧ m' = m ∧ p' = p)) :=
    ⟨l, m, p, en, rfl, h, .inl ⟨rfl, rfl, rfl, rfl⟩, .inl rfl, fun _ => ⟨rfl, rfl, rfl, rfl⟩, .inr ⟨rfl, rfl, rfl⟩⟩
  by_cases h1 : a < st
  · rw [if_pos h1]
    exact same
  rw [if_neg h1]
  have hst : st ≤ a := by omega
  by_cases h2 : cntN a > cntN en
  · rw [if_pos h2]
    by_cases h3 : cntN a > 458752
    · rw [if_pos h3]
      unfold gmap_Brk.j0
      dsimp only
      rw [if_pos rfl]
      exact same
    have hd : (cntN a - cntN en) % 4294967296 = cntN a - cntN en := by omega
    rw [if_neg h3, some_f l m b h.pages c0.1, Option.bind_some, hd]
    unfold gmap_Brk.j0
    dsimp only
    cases h4 : someN p (cntN en) (cntN a - cntN en) with
    | true =>
      rw [if_pos rfl]
      exact same
    | false =>
      have hno := someN_no h4
      rw [if_neg (by decide), hd, h.map_f c0.1 (by omega) (by omega) (by omega) (by decide) (by decide), Option.bind_some]
      dsimp only
      rcases mapG_cases l m b p (cntN en) (cntN a - cntN en) 3 with ⟨_, _, _, q4⟩ | ⟨hw, hf, l', q, q1⟩
      · rw [if_neg q4]
        exact same
      · have H2 := h.mapped c0.1 (by omega) hw hf q
        have HU := map_unmap h c0.1 (by omega) hno hw hf q
        rw [q1]
        dsimp only
        rw [if_pos rfl]
        exact ⟨_, _, _, a, rfl, H2, .inr ⟨rfl, .inr (.inr ⟨by omega, HU⟩)⟩, .inr ⟨rfl, hst⟩, fun hx => absurd hx h1, .inl rfl⟩
  rw [if_neg h2]
  by_cases h3 : cntN a < cntN en
  · have hd : (cntN en - cntN a) % 4294967296 = cntN en - cntN a := by omega
    have HF := h.unmap (a := cntN a) (n := cntN en - cntN a) c1.1 (by omega)
    have e4 : (unmapG l m b p (cntN a) (cntN en - cntN a)).2.2.2 = 0 := by
      rw [unmapG_eq h c1.1 (by omega), if_neg (wrongG_u c1.1 (by omega) (by omega))]
    rw [if_pos h3, hd, h.unmap_f c1.1 (by omega) (by omega) (by omega), Option.bind_some]
    dsimp only
    rw [if_pos e4]
    exact ⟨_, _, _, a, rfl, HF, .inr ⟨rfl, .inr (.inl h3)⟩, .inr ⟨rfl, hst⟩, fun hx => absurd hx h1, .inl rfl⟩
  rw [if_neg h3, if_pos rfl]
  exact ⟨l, m, p, a, rfl, h, .inr ⟨rfl, .inl ⟨by omega, rfl, rfl, rfl⟩⟩, .inr ⟨rfl, hst⟩, fun hx => absurd hx h1, .inl rfl⟩
theorem brk_back {l : List SM} {m : List SC} {b : Int} {p : List SP} {st en a : Int} (e0 : 0 ≤ en) (e1 : en < 4294967296) (a0 : 0 ≤ a) (a1 : a < 4294967296) (hse : st ≤ en) (ha : en ≤ a) {l' : List SM} {m' : List SC} {p' : List SP} {en' : Int} (h' : FitG l' m' b p') (hB : BrkIs l m b p en a l' m' p' en') (k : Nat) :
    ∃ l2 m2, gmap_Brk.f (k + 1) l' m' b p' st en' en = some (l2, m2, b, p, st, en, en) := by
  have c0 := cntN_bd e0 e1
  have c1 := cntN_bd a0 a1
  have hc : cntN en ≤ cntN a := by unfold cntN; omega
  have eq : ∀ x, 0 ≤ x → x < 4294967296 → cntN x = cntN en → gmap_Brk.f (k + 1) l' m' b p st x en = some (l', m', b, p, st, en, en) := fun x x0 x1 hx => by
    unfold gmap_Brk.f
    rw [count_f x0 x1, Option.bind_some, count_f e0 e1, Option.bind_some, if_neg (by omega), if_neg (by omega), if_neg (by omega), if_pos rfl]
  rcases hB with ⟨rfl, rfl, rfl, rfl⟩ | ⟨rfl, (⟨q, rfl, rfl, rfl⟩ | q | ⟨q, hU⟩)⟩
  · exact ⟨_, _, eq _ e0 e1 rfl⟩
  · exact ⟨_, _, eq _ a0 a1 q⟩
  · omega
  · have hd : (cntN en' - cntN en) % 4294967296 = cntN en' - cntN en := by omega
    unfold gmap_Brk.f
    rw [count_f a0 a1, Option.bind_some, count_f e0 e1, Option.bind_some, if_neg (by omega), if_neg (by omega), if_pos q, hd, h'.unmap_f c0.1 (by omega) (by omega) (by omega), hU, Option.bind_some]
    exact ⟨_, _, rfl⟩
end Go.Proofs.Ytgkjdpdmmlalcaa.F
end
section
namespace Go.Proofs.Ytgkjdpdmmlalcaa.F
open Go.RowKit Go.Shelf Go.Proofs.YtgkjdpdmmlalcaaW.PrintWords Go.Proofs.YtgkjdpdmmlalcaaW.PrintLast Go.Proofs.YtgkjdpdmmlalcaaW.PrintMore
set_option linter.unusedVariables false
set_option linter.unusedSimpArgs false
theorem mmap_back {l : List SM} {m : List SC} {b : Int} {p : List SP} (h : FitG l m b p) {st en n q : Int} (s0 : 0 ≤ st) (s1 : st < 4294967296) (e0 : 0 ≤ en) (e1 : en < 4294967296) (n0 : 0 ≤ n) (n1 : n < 4294967296) (q0 : -9223372036854775808 ≤ q) (q1 : q ≤ 9223372036854775807) (k : Nat) :
    ∃ r, gmap_Mmap.f (k + 3) l m b p st en 0 n q false = some r ∧ (r.2.2.2.2.2.2.2 = 0 → gmap_Munmap.f (k + 3) r.1 r.2.1 r.2.2.1 r.2.2.2.1 r.2.2.2.2.1 r.2.2.2.2.2.1 r.2.2.2.2.2.2.1 n = some (l, m, b, p, st, en, 0)) := by
  have bad : ∃ r, gmap_Mmap.j0 (k + 2 + 1) 0 n q false true l m b p st en = some r ∧ (r.2.2.2.2.2.2.2 = 0 → gmap_Munmap.f (k + 3) r.1 r.2.1 r.2.2.1 r.2.2.2.1 r.2.2.2.2.1 r.2.2.2.2.2.1 r.2.2.2.2.2.2.1 n = some (l, m, b, p, st, en, 0)) := by
    rw [gmap_Mmap.j0, if_pos rfl]
    exact ⟨_, rfl, fun hx => absurd (show (_ : Int) = 0 from hx) (by dsimp only; decide)⟩
  unfold gmap_Mmap.f
  by_cases hn : n = 0
  · rw [if_pos hn]
    exact bad
  rw [if_neg hn]
  by_cases hq : Go.bits .andNot .i64 q 7 = 0
  · rw [if_pos hq, if_neg (by decide)]
    have c0 := cntN_bd n0 n1
    have cp : 0 < cntN n := cntN_pos (by omega)
    show ∃ r, gmap_Mmap.j0 (k + 2 + 1) 0 n q false false l m b p st en = some r ∧ _
    rw [gmap_Mmap.j0, if_neg (by decide), count_f n0 n1, Option.bind_some]
    by_cases hk : cntN n > 256
    · rw [if_pos hk, gmap_Mmap.j1, if_pos rfl]
      exact ⟨_, rfl, fun hx => absurd (show (_ : Int) = 0 from hx) (by dsimp only; decide)⟩
    have hh : gmap_hint.f l m b p st en 0 (cntN n) = some false := by
      unfold gmap_hint.f
      rw [if_pos (by decide), if_pos rfl]
    obtain ⟨r, hr, hr2⟩ := free_f l m b h.pages s0 s1 e0 e1 c0.1 (show cntN n < 4294967296 by omega)
    rw [if_neg hk, if_neg (by decide), gmap_Mmap.j1, if_neg (by decide), if_neg (by decide), hh, Option.bind_some, gmap_Mmap.j2, Bool.not_false, if_pos rfl, hr, Option.bind_some]
    by_cases hb : r.2 = true
    · obtain ⟨r0, r1, hno⟩ := hr2 hb
      generalize r.1 = a at r0 r1 hno
      rw [if_pos hb, h.map_f r0 (by omega) c0.1 (by omega) q0 q1, Option.bind_some]
      dsimp only
      rcases mapG_cases l m b p a (cntN n) q with ⟨_, _, _, q4⟩ | ⟨hw, hf, l', g, g1⟩
      · rw [if_neg q4]
        exact ⟨_, rfl, fun hx => absurd hx q4⟩
      · have H2 := h.mapped r0 c0.1 hw hf g
        have HU := map_unmap h r0 c0.1 hno hw hf g
        rw [g1]
        dsimp only
        rw [if_pos rfl]
        refine ⟨_, rfl, fun _ => ?_⟩
        dsimp only
        have ha : a * 4096 % 4294967296 = a * 4096 := by omega
        have hm : Int.tmod (a * 4096) 4096 = 0 := by
          rw [Int.tmod_eq_emod_of_nonneg (by omega)]
          omega
        have hd : Int.tdiv (a * 4096) 4096 % 4294967296 = a := by
          rw [Int.tdiv_eq_ediv_of_nonneg (by omega)]
          omega
        unfold gmap_Munmap.f
        rw [count_f n0 n1, Option.bind_some, ha, if_pos hm, if_neg hn, hd, decide_eq_false (by omega), gmap_Munmap.j0, if_neg (by decide), hd, H2.unmap_f r0 (by omega) c0.1 (by omega), HU, Option.bind_some]
        unfold gmap_with.f
        rw [if_pos rfl, Option.bind_some]
    rw [if_neg hb]
    exact ⟨_, rfl, fun hx => absurd (show (_ : Int) = 0 from hx) (by dsimp only; decide)⟩
  rw [if_neg hq]
  exact bad
theorem same06 {l : List SM} {m : List SC} {b : Int} {p : List SP} (h : FitG l m b p) (st en : Int) (k : Nat) (hk : 200000 < k) : ferryref06_Same.f k l m b p st en l m b p st en = some true := by
  unfold ferryref06_Same.f
  rw [h.same k hk, Option.bind_some, if_pos rfl, if_pos rfl, beq_self_eq_true]
theorem fit06 {l : List SM} {m : List SC} {b : Int} {p : List SP} (h : FitG l m b p) {st en : Int} (h1 : Int.tmod st 4096 = 0) (h2 : st ≤ en) (k : Nat) (hk : 200000 < k) : ferryref06_Fit.f k l m b p st en = some true := by
  unfold ferryref06_Fit.f
  rw [h.ref k hk, Option.bind_some, if_pos rfl, if_pos h1, decide_eq_true h2]
theorem few06 (l : List SM) (m : List SC) (b : Int) (p : List SP) (st en : Int) : ferrylaw06_few.f l m b p st en = some (decide (l.length ≤ 70 ∧ m.length ≤ 100 ∧ p.length ≤ 80)) := by
  unfold ferrylaw06_few.f
  by_cases h1 : l.length ≤ 70
  · rw [if_pos (by omega)]
    by_cases h2 : m.length ≤ 100
    · rw [if_pos (by omega)]
      congr 1
      by_cases h3 : p.length ≤ 80
      · rw [decide_eq_true (by omega), decide_eq_true ⟨h1, h2, h3⟩]
      rw [decide_eq_false (by omega), decide_eq_false (fun h => h3 h.2.2)]
    rw [if_neg (by omega), decide_eq_false (fun h => h2 h.2.1)]
  rw [if_neg (by omega), decide_eq_false (fun h => h1 h.1)]
theorem GmapBack_pure : ferrylaw06_GmapBack.Pure := by
  intro l m b p st en a n q wl wm hb wp hst hen ha hn hq
  obtain ⟨k, hk⟩ : ∃ k : Nat, 5000000 < k := ⟨5000001, by omega⟩
  refine ⟨k + 6, ?_⟩
  have away : ferrylaw06_GmapBack.j0 (k + 5 + 1) a n q true l m b p st en = some true := by
    rw [ferrylaw06_GmapBack.j0, if_pos rfl, awake06 _ (by omega)]
    rfl
  unfold ferrylaw06_GmapBack.f
  rw [few06, Option.bind_some]
  by_cases h1 : l.length ≤ 70 ∧ m.length ≤ 100 ∧ p.length ≤ 80
  · rw [decide_eq_true h1, if_pos rfl]
    unfold ferryref06_Fit.f
    rw [ref04_Fit wl.2 wm.2 hb.1 hb.2 wp.2 (by omega) (by omega) _ (by omega), Option.bind_some]
    cases h2 : gfitB l m b p with
    | false => exact away
    | true =>
      have h := (gfitB_iff wl.2 wm.2 hb.1 hb.2 wp.2).1 h2
      rw [if_pos rfl]
      by_cases h3 : Int.tmod st 4096 = 0
      · rw [if_pos h3, Option.bind_some]
        by_cases h4 : st ≤ en
        · rw [decide_eq_true h4, Bool.not_true]
          obtain ⟨l', m', p', en', eB, F', hB, hEn, hlow, hor⟩ := brk_f h (st := st) hen.1 (by omega) ha.1 (show a < 4294967296 by omega) (k + 4)
          have en0 : 0 ≤ en' ∧ en' < 4294967296 ∧ st ≤ en' := by rcases hEn with rfl | ⟨rfl, _⟩ <;> omega
          show ferrylaw06_GmapBack.j0 (k + 5 + 1) a n q false l m b p st en = some true
          rw [ferrylaw06_GmapBack.j0, if_neg (by decide), eB, Option.bind_some]
          dsimp only
          rw [if_pos rfl]
          have tail : ferrylaw06_GmapBack.j1 (k + 4 + 1) a n q false l m b p st en l' m' b p' st en' = some true := by
            have j2 : ferrylaw06_GmapBack.j2 (k + 3 + 1) n q false l m b p st en = some true := by
              rw [ferrylaw06_GmapBack.j2, if_neg (by decide)]
              obtain ⟨r, hr, hr2⟩ := mmap_back h hst.1 (show st < 4294967296 by omega) hen.1 (show en < 4294967296 by omega) hn.1 (show n < 4294967296 by omega) hq.1 hq.2 k
              rw [hr, Option.bind_some]
              by_cases hz : r.2.2.2.2.2.2.2 = 0
              · rw [if_pos hz]
                rw [hr2 hz, Option.bind_some]
                dsimp only
                rw [if_pos rfl, same06 h st en _ (by omega), Option.bind_some, if_pos rfl, awake06 _ (by omega)]
                rfl
              rw [if_neg hz, awake06 _ (by omega)]
              rfl
            rw [ferrylaw06_GmapBack.j1, if_neg (by decide)]
            by_cases hae : a ≥ en
            · obtain ⟨l2, m2, e2⟩ := brk_back (st := st) hen.1 (show en < 4294967296 by omega) ha.1 (show a < 4294967296 by omega) h4 hae F' hB (k + 3)
              rw [e2, Option.bind_some, if_pos hae]
              dsimp only
              rw [if_pos rfl, bne_self_eq_false]
              exact j2
            obtain ⟨l2, m2, p2, en2, e2, _⟩ := brk_f F' (st := st) en0.1 en0.2.1 hen.1 (show en < 4294967296 by omega) (k + 3)
            rw [e2, Option.bind_some, if_neg hae]
            exact j2
          have fit' := fit06 F' h3 en0.2.2 (k + 5) (by omega)
          by_cases he : en' = a
          · rw [if_pos he, fit', Option.bind_some]
            exact tail
          obtain ⟨rfl, rfl, rfl⟩ : l' = l ∧ m' = m ∧ p' = p := hor.resolve_left he
          obtain rfl : en' = en := hEn.resolve_right (fun hx => he hx.1)
          rw [if_neg he, same06 h st en' _ (by omega), Option.bind_some, if_pos rfl, fit', Option.bind_some]
          exact tail
        rw [decide_eq_false h4]
        exact away
      rw [if_neg h3]
      exact away
  rw [decide_eq_false h1, if_neg (by decide)]
  exact away
end Go.Proofs.Ytgkjdpdmmlalcaa.F
end
