import Derived.Test.YtgkjdpdmmlalcaaTZF0
import Derived.Test.YtgkjdpdmmlalcaaTA0
import Derived.Test.YtgkjdpdmmlalcaaTA1HHost0
import Derived.Test.YtgkjdpdmmlalcaaTA2
import Derived.Test.YtgkjdpdmmlalcaaTA4
import Derived.Test.YtgkjdpdmmlalcaaTA5HHost11
import Derived.Test.YtgkjdpdmmlalcaaTA6
import Derived.Test.YtgkjdpdmmlalcaaTA7FFerryref04Fit
import Derived.Test.YtgkjdpdmmlalcaaTA8
import Derived.Test.YtgkjdpdmmlalcaaTA9HSwap
import Derived.Test.YtgkjdpdmmlalcaaTA10
import Derived.Test.YtgkjdpdmmlalcaaTA12
import Derived.Test.YtgkjdpdmmlalcaaTA13HHost6
import Derived.Test.YtgkjdpdmmlalcaaTA14
import Derived.Test.YtgkjdpdmmlalcaaTA16
import Derived.Test.YtgkjdpdmmlalcaaTA18
import Derived.Test.YtgkjdpdmmlalcaaTA19FGmemPut
import Derived.Test.YtgkjdpdmmlalcaaTA20
import Derived.Test.YtgkjdpdmmlalcaaTA25FFerrylaw05Awake
import Derived.Test.YtgkjdpdmmlalcaaTA26
import Derived.Test.YtgkjdpdmmlalcaaTA27HGmem3
import Derived.Test.YtgkjdpdmmlalcaaTA28FFerrylaw05GmemTexts
section
namespace Go.Proofs.Ytgkjdpdmmlalcaa.F
open Go.RowKit Go.Proofs.YtgkjdpdmmlalcaaW.PrintWords Go.Proofs.YtgkjdpdmmlalcaaW.PrintLast Go.Proofs.YtgkjdpdmmlalcaaW.PrintMore
def ferrylaw05_GmemTexts.Pure : Prop :=
  ∀ (l0_0 : List (S83)) (l0_1 : List (S88)) (a0_2 : Int) (l0_3 : List (S41)) (a1 : Int) (a2 : ByteArray), (l0_0.length ≤ 9223372036854775807 ∧ ∀ x_ ∈ l0_0, wfS83 x_) → (l0_1.length ≤ 9223372036854775807 ∧ ∀ x_ ∈ l0_1, wfS88 x_) → (0 ≤ a0_2 ∧ a0_2 ≤ 18446744073709551615) → (l0_3.length ≤ 9223372036854775807 ∧ ∀ x_ ∈ l0_3, wfS41 x_) → (0 ≤ a1 ∧ a1 ≤ 4294967295) → (a2.size ≤ 140737488351232) → ∃ k, ferrylaw05_GmemTexts.f k l0_0 l0_1 a0_2 l0_3 a1 a2 = some true
end Go.Proofs.Ytgkjdpdmmlalcaa.F
end
section
namespace Go.Proofs.Ytgkjdpdmmlalcaa.F
open Go.RowKit Go.Shelf Go.Proofs.YtgkjdpdmmlalcaaW.PrintWords Go.Proofs.YtgkjdpdmmlalcaaW.PrintLast Go.Proofs.YtgkjdpdmmlalcaaW.PrintMore
set_option linter.unusedVariables false
set_option linter.unusedSimpArgs false
abbrev wfP := wfS41
def hoN (b n : Int) : Int := b / 16384 + n / 4
def usedN (p : List SP) (b a : Int) : Bool := p.any (fun x => decide (hoN b x.f0 = a))
structure BaseG (b : Int) : Prop where
  b0 : 0 ≤ b
  b1 : b ≤ 4611686018427387904
  b2 : b % 16384 = 0
structure PagesG (p : List SP) : Prop where
  pn : p.length ≤ 256
  pr : Rises pgK p
  pp : ∀ x ∈ p, 0 ≤ x.f0 ∧ x.f0 < 1048576 ∧ 0 ≤ x.f1 ∧ x.f1 ≤ 7
structure FitG (l : List SM) (m : List SC) (b : Int) (p : List SP) : Prop where
  h : FitH l m
  base : BaseG b
  pages : PagesG p
  pm : ∀ x ∈ p, has mpK (hoN b x.f0) l = true
  lm : ∀ y ∈ l, b ≤ y.f0 * 16384 → y.f0 * 16384 - b < 4294967296 → y.f1 = 3 ∧ ∃ x ∈ p, hoN b x.f0 = y.f0
  cm : ∀ c ∈ m, b ≤ c.f0 → c.f0 - b < 4294967296 → ∃ x ∈ p, x.f0 = (c.f0 - b) / 4096
theorem hoN_mem {b n : Int} (hb : BaseG b) (n0 : 0 ≤ n) (n1 : n < 1048576) : b ≤ hoN b n * 16384 ∧ hoN b n * 16384 - b < 4294967296 := by
  have h0 := hb.b0
  have h2 := hb.b2
  unfold hoN
  omega
theorem hoS_eq {b n : Int} (hb : BaseG b) (n0 : 0 ≤ n) (n1 : n < 1048576) : hoS b n = hoN b n := by
  have h0 := hb.b0
  have h1 := hb.b1
  have h2 := hb.b2
  unfold hoS hoN
  rw [u64w (n * 4096 % 4294967296), u64w (b + _), Int.tdiv_eq_ediv_of_nonneg (by omega), u64w]
  omega
theorem reachS_eq {b a : Int} (hb : BaseG b) (a0 : 0 ≤ a) (a1 : a < 18446744073709551616) : reachS b a = decide (b ≤ a ∧ a - b < 4294967296) := by
  have h0 := hb.b0
  have h1 := hb.b1
  unfold reachS
  rw [u64w]
  by_cases h : b ≤ a
  · rw [decide_eq_true (show a ≥ b from h), Bool.and_true]
    by_cases h2 : a - b < 4294967296
    · rw [decide_eq_true (show (a - b) % 18446744073709551616 < 4294967296 by omega), decide_eq_true (show b ≤ a ∧ a - b < 4294967296 from ⟨h, h2⟩)]
    rw [decide_eq_false (show ¬ (a - b) % 18446744073709551616 < 4294967296 by omega), decide_eq_false (show ¬ (b ≤ a ∧ a - b < 4294967296) from fun e => h2 e.2)]
  rw [decide_eq_false (show ¬ a ≥ b from h), Bool.and_false, decide_eq_false (fun e => h e.1)]
theorem usedS_eq {p : List SP} {b : Int} (hb : BaseG b) (hr : Rises pgK p) (pp : ∀ x ∈ p, 0 ≤ x.f0 ∧ x.f0 < 1048576) {a : Int} (a0 : b ≤ a * 16384) (a1 : a * 16384 - b < 4294967296) : usedS p b a = usedN p b a := by
  have h0 := hb.b0
  have h1 := hb.b1
  have h2 := hb.b2
  have e : (IntKind.u64.wrap (Int.tdiv (IntKind.u64.wrap ((IntKind.u64.wrap (a * 16384)) - b)) 4096)) % 4294967296 = 4 * (a - b / 16384) := by
    rw [u64w (a * 16384), u64w (_ - b), Int.tdiv_eq_ediv_of_nonneg (by omega), u64w]
    omega
  unfold usedS
  rw [e]
  generalize hj : 4 * (a - b / 16384) = j
  cases h : p[lowB pgK j p]? with
  | none =>
    have hlen := List.getElem?_eq_none_iff.1 h
    symm
    refine List.any_eq_false.2 (fun x hx => ?_)
    obtain ⟨i, hi, rfl⟩ := List.getElem_of_mem hx
    have h3 := lowB_lt pgK j p i hi (by omega)
    have h4 : pgK p[i] = p[i].f0 := rfl
    have h5 := pp _ hx
    simp only [decide_eq_true_eq]
    unfold hoN
    omega
  | some x =>
    obtain ⟨hlt, hx⟩ := List.getElem?_eq_some_iff.1 h
    have hm : x ∈ p := by rw [← hx]; exact List.getElem_mem hlt
    have hp := pp x hm
    have hge := lowB_ge pgK j hr _ hlt (Nat.le_refl _)
    rw [hx] at hge
    have hk : pgK x = x.f0 := rfl
    dsimp only
    rw [hoS_eq hb hp.1 hp.2]
    by_cases hxa : hoN b x.f0 = a
    · rw [hxa, beq_self_eq_true]
      symm
      exact List.any_eq_true.2 ⟨x, hm, decide_eq_true hxa⟩
    rw [show (hoN b x.f0 == a) = false from beq_eq_false_iff_ne.2 hxa]
    symm
    refine List.any_eq_false.2 (fun y hy => ?_)
    obtain ⟨i, hi, rfl⟩ := List.getElem_of_mem hy
    have h5 := pp _ hy
    have h4 : pgK p[i] = p[i].f0 := rfl
    simp only [decide_eq_true_eq]
    unfold hoN at hxa ⊢
    rcases Nat.lt_or_ge i (lowB pgK j p) with h6 | h6
    · have h3 := lowB_lt pgK j p i hi h6
      omega
    · have h3 : x.f0 ≤ p[i].f0 := by
        rcases Nat.lt_or_eq_of_le h6 with h7 | h7
        · have h8 := rises_get pgK hr _ i hi h7
          rw [hx] at h8
          have h9 : pgK x = x.f0 := rfl
          omega
        · subst h7
          rw [hx]
          exact Int.le_refl _
      omega
theorem protP_neg {p : List SP} (hr : Rises pgK p) (pp : ∀ x ∈ p, 0 ≤ x.f1) (n : Int) : decide (protP p n < 0) = !has pgK n p := by
  unfold protP
  cases hh : has pgK n p with
  | false => rfl
  | true =>
    rw [if_pos rfl]
    obtain ⟨x, hx, e⟩ := has_mem.1 hh
    rw [← e, look_mem pgK (fun x => x.f1) hr hx]
    have := pp x hx
    exact decide_eq_false (by omega)
theorem mappedS_ne {l : List SM} (hr : Rises mpK l) (a : Int) : (mappedS l a != 3) = !(has mpK a l && decide (prt l a = 3)) := by
  unfold mappedS
  cases hh : has mpK a l with
  | false => rfl
  | true =>
    rw [if_pos rfl, Bool.true_and]
    by_cases h : prt l a = 3
    · rw [h]
      rfl
    rw [decide_eq_false h, bne_iff_ne.2 h]
    rfl
theorem fpS_iff {p : List SP} (wp : ∀ x ∈ p, wfP x) : fpS p = true ↔ Rises pgK p ∧ ∀ x ∈ p, 0 ≤ x.f0 ∧ x.f0 < 1048576 ∧ 0 ≤ x.f1 ∧ x.f1 ≤ 7 := by
  have hb : ∀ (k : Nat) (hk : k < p.length), badPg p k = false ↔ (p[k].f0 < 1048576 ∧ 0 ≤ p[k].f1 ∧ p[k].f1 ≤ 7) ∧ prevGe pgK p k (pgK p[k]) = false := fun k hk => by
    have hw : (0 ≤ p[k].f0 ∧ p[k].f0 ≤ 4294967295) ∧ (-9223372036854775808 ≤ p[k].f1 ∧ p[k].f1 ≤ 9223372036854775807) := wp _ (List.getElem_mem hk)
    unfold badPg
    rw [List.getElem?_eq_getElem hk]
    dsimp only
    rw [badProt_iff hw.2.1 hw.2.2, Bool.or_eq_false_iff, Bool.or_eq_false_iff, decide_eq_false_iff_not, Bool.not_eq_false', decide_eq_true_eq]
    exact ⟨fun h => ⟨⟨by omega, h.2.1⟩, h.2.2⟩, fun h => ⟨by omega, h.1.2, h.2⟩⟩
  unfold fpS
  rw [not_any_range, rises_prev]
  refine ⟨fun h => ⟨fun i hi => ((hb i hi).1 (h i hi)).2, fun x hx => ?_⟩, fun h i hi => (hb i hi).2 ⟨(h.2 _ (List.getElem_mem hi)).2, h.1 i hi⟩⟩
  obtain ⟨i, hi, rfl⟩ := List.getElem_of_mem hx
  have hw : (0 ≤ p[i].f0 ∧ p[i].f0 ≤ 4294967295) ∧ _ := wp _ hx
  exact ⟨hw.1.1, ((hb i hi).1 (h i hi)).1⟩
theorem usedN_iff {p : List SP} {b a : Int} : usedN p b a = true ↔ ∃ x ∈ p, hoN b x.f0 = a := by
  unfold usedN
  rw [List.any_eq_true]
  exact ⟨fun ⟨x, hx, h⟩ => ⟨x, hx, of_decide_eq_true h⟩, fun ⟨x, hx, h⟩ => ⟨x, hx, decide_eq_true h⟩⟩
theorem FitG.prt {l : List SM} {m : List SC} {b : Int} {p : List SP} (h : FitG l m b p) {x : SP} (hx : x ∈ p) : prt l (hoN b x.f0) = 3 := by
  obtain ⟨y, hy, e⟩ := has_mem.1 (h.pm x hx)
  have hk : mpK y = y.f0 := rfl
  have hp := h.pages.pp x hx
  have hm := hoN_mem h.base hp.1 hp.2.1
  rw [← e] at hm ⊢
  unfold F.prt
  rw [look_mem mpK mpV h.h.lr hy]
  exact (h.lm y hy hm.1 hm.2).1
theorem gfitB_iff {l : List SM} {m : List SC} {b : Int} {p : List SP} (wl : ∀ x ∈ l, wfM x) (wm : ∀ x ∈ m, wfC x) (b0 : 0 ≤ b) (b1 : b ≤ 18446744073709551615) (wp : ∀ x ∈ p, wfP x) : gfitB l m b p = true ↔ FitG l m b p := by
  unfold gfitB
  simp only [Bool.and_eq_true, Bool.not_eq_true', decide_eq_false_iff_not, fitB_iff wl wm, fpS_iff wp, bne_eq_false_iff_eq, List.any_eq_false]
  rw [Int.tmod_eq_emod_of_nonneg b0]
  constructor
  · rintro ⟨hH, h1, h2, h3, ⟨h4, h5⟩, h6, h7, h8⟩
    have hb : BaseG b := ⟨b0, by omega, h1⟩
    have hL : ∀ y ∈ l, b ≤ y.f0 * 16384 → y.f0 * 16384 - b < 4294967296 → ∃ x ∈ p, hoN b x.f0 = y.f0 := fun y hy ha hc => by
      have hp := hH.lp y hy
      have h9 := h7 y hy
      unfold idleB at h9
      rw [u64w, show y.f0 * 16384 % 18446744073709551616 = y.f0 * 16384 by omega, reachS_eq hb (by omega) (by omega), decide_eq_true ⟨ha, hc⟩, usedS_eq hb h4 (fun x hx => ⟨(h5 x hx).1, (h5 x hx).2.1⟩) ha hc] at h9
      exact usedN_iff.1 (by simpa using h9)
    have hP : ∀ x ∈ p, has mpK (hoN b x.f0) l = true ∧ F.prt l (hoN b x.f0) = 3 := fun x hx => by
      have h9 := h6 x hx
      have hp := h5 x hx
      unfold lostB at h9
      rw [hoS_eq hb hp.1 hp.2.1, mappedS_ne hH.lr] at h9
      simpa using h9
    refine ⟨hH, hb, ⟨by omega, h4, h5⟩, fun x hx => (hP x hx).1, fun y hy ha hc => ?_, fun c hc ha hd => ?_⟩
    · obtain ⟨x, hx, e⟩ := hL y hy ha hc
      refine ⟨?_, x, hx, e⟩
      have h9 := (hP x hx).2
      rw [e] at h9
      unfold F.prt at h9
      have h10 := look_mem mpK mpV hH.lr hy
      have hk : mpK y = y.f0 := rfl
      rw [hk, h9] at h10
      exact h10.symm
    · have h9 := h8 c hc
      have hq := hH.mp c hc
      unfold strayB at h9
      rw [reachS_eq hb hq.1 hq.2.1, decide_eq_true ⟨ha, hd⟩, protP_neg h4 (fun x hx => (h5 x hx).2.2.1), u64w (c.f0 - b), Int.tdiv_eq_ediv_of_nonneg (by omega), u64w, show (c.f0 - b) % 18446744073709551616 / 4096 % 18446744073709551616 % 4294967296 = (c.f0 - b) / 4096 by omega] at h9
      obtain ⟨x, hx, e⟩ := has_mem.1 (show has pgK ((c.f0 - b) / 4096) p = true by simpa using h9)
      exact ⟨x, hx, e⟩
  · intro h
    have hb := h.base
    have h5 := h.pages.pp
    refine ⟨h.h, hb.b2, by have := hb.b1; omega, by have := h.pages.pn; omega, ⟨h.pages.pr, h5⟩, fun x hx => ?_, fun y hy => ?_, fun c hc => ?_⟩
    · have hp := h5 x hx
      unfold lostB
      rw [hoS_eq hb hp.1 hp.2.1, mappedS_ne h.h.lr, h.pm x hx, h.prt hx]
      simp
    · have hp := h.h.lp y hy
      unfold idleB
      rw [u64w, show y.f0 * 16384 % 18446744073709551616 = y.f0 * 16384 by omega, reachS_eq hb (by omega) (by omega)]
      by_cases ha : b ≤ y.f0 * 16384 ∧ y.f0 * 16384 - b < 4294967296
      · rw [decide_eq_true ha, usedS_eq hb h.pages.pr (fun x hx => ⟨(h5 x hx).1, (h5 x hx).2.1⟩) ha.1 ha.2, usedN_iff.2 (h.lm y hy ha.1 ha.2).2]
        simp
      rw [decide_eq_false ha]
      simp
    · have hq := h.h.mp c hc
      unfold strayB
      rw [reachS_eq hb hq.1 hq.2.1]
      by_cases ha : b ≤ c.f0 ∧ c.f0 - b < 4294967296
      · obtain ⟨x, hx, e⟩ := h.cm c hc ha.1 ha.2
        rw [decide_eq_true ha, protP_neg h.pages.pr (fun x hx => (h5 x hx).2.2.1), u64w (c.f0 - b), Int.tdiv_eq_ediv_of_nonneg (by omega), u64w, show (c.f0 - b) % 18446744073709551616 / 4096 % 18446744073709551616 % 4294967296 = (c.f0 - b) / 4096 by omega, has_mem.2 ⟨x, hx, e⟩]
        simp
      rw [decide_eq_false ha]
      simp
end Go.Proofs.Ytgkjdpdmmlalcaa.F
end
section
namespace Go.Proofs.Ytgkjdpdmmlalcaa.F
open Go.RowKit Go.Proofs.YtgkjdpdmmlalcaaW.PrintWords Go.Proofs.YtgkjdpdmmlalcaaW.PrintLast Go.Proofs.YtgkjdpdmmlalcaaW.PrintMore
attribute [local go_sem] max2_int min2_int max_two min_two max_three min_three max_four min_four
set_option linter.unusedVariables false
set_option linter.unusedSimpArgs false

theorem eqA41 (d : Nat) (w : World) (x0 y0 : Int) (x1 y1 : Int) :
    (Op.equalIn (d + 2) 41 (.agg #[.int .u32 x0, .int .i64 x1]) (.agg #[.int .u32 y0, .int .i64 y1])).run Try.prog w = .ok (x0 == y0 && (x1 == y1)) w := by
  refine eqA_of Try.underlying41 (by kernel_rfl) ?_
  refine eqf_cons (by rfl) (by go_simp; rfl) (by go_simp; rfl) (by go_simp) ?_
  exact eqf_last (by rfl) (by go_simp; rfl) (by go_simp; rfl) (by go_simp)
end Go.Proofs.Ytgkjdpdmmlalcaa.F
end
section
namespace Go.Proofs.Ytgkjdpdmmlalcaa.F
open Go.RowKit Go.Proofs.YtgkjdpdmmlalcaaW.PrintWords Go.Proofs.YtgkjdpdmmlalcaaW.PrintLast Go.Proofs.YtgkjdpdmmlalcaaW.PrintMore
attribute [local go_sem] max2_int min2_int max_two min_two max_three min_three max_four min_four
set_option linter.unusedVariables false
set_option linter.unusedSimpArgs false

attribute [local go_sem high] eqA41
mutual
def ferryref04_Same.j0 : Nat → Bool → List (S83) → List (S88) → Int → List (S41) → List (S83) → List (S88) → Int → List (S41) → Option (Bool)
  | 0, _, _, _, _, _, _, _, _, _ => none
  | k + 1, x27, x273000, x273001, x273002, x273003, x274000, x274001, x274002, x274003 => if x27 = true then (some false) else (ferryref04_Same.l0 k 0 x273000 x273001 x273002 x273003 x274000 x274001 x274002 x274003)
def ferryref04_Same.l0 : Nat → Int → List (S83) → List (S88) → Int → List (S41) → List (S83) → List (S88) → Int → List (S41) → Option (Bool)
  | 0, _, _, _, _, _, _, _, _, _ => none
  | k + 1, x5, x273000, x273001, x273002, x273003, x274000, x274001, x274002, x274003 => if x5 < (x273003.length : Int) then (if 0 ≤ x5 then (if x5 < (x274003.length : Int) then (if (!(((rd_T41 x273003 x5).f0) == ((rd_T41 x274003 x5).f0)) || (!(((rd_T41 x273003 x5).f1) == ((rd_T41 x274003 x5).f1)))) = true then (some false) else (ferryref04_Same.l0 k (wrap64 (x5 + 1)) x273000 x273001 x273002 x273003 x274000 x274001 x274002 x274003)) else (none)) else (none)) else (some true)
end
def ferryref04_Same.f (k : Nat) (l0_0 : List (S83)) (l0_1 : List (S88)) (a0_2 : Int) (l0_3 : List (S41)) (l1_0 : List (S83)) (l1_1 : List (S88)) (a1_2 : Int) (l1_3 : List (S41)) : Option (Bool) := (ferryref03_Same.f k l0_0 l0_1 l1_0 l1_1).bind fun t274 => (if t274 = true then (if a0_2 = a1_2 then (ferryref04_Same.j0 k ((l0_3.length : Int) != (l1_3.length : Int)) l0_0 l0_1 a0_2 l0_3 l1_0 l1_1 a1_2 l1_3) else (ferryref04_Same.j0 k true l0_0 l0_1 a0_2 l0_3 l1_0 l1_1 a1_2 l1_3)) else (ferryref04_Same.j0 k true l0_0 l0_1 a0_2 l0_3 l1_0 l1_1 a1_2 l1_3))
end Go.Proofs.Ytgkjdpdmmlalcaa.F
end
section
namespace Go.Proofs.Ytgkjdpdmmlalcaa.F
open Go.RowKit Go.Shelf Go.Proofs.YtgkjdpdmmlalcaaW.PrintWords Go.Proofs.YtgkjdpdmmlalcaaW.PrintLast Go.Proofs.YtgkjdpdmmlalcaaW.PrintMore
set_option linter.unusedVariables false
set_option linter.unusedSimpArgs false
theorem protP_cons (x : SP) (p : List SP) (n : Int) : protP (x :: p) n = if x.f0 = n then x.f1 else protP p n := by
  unfold protP
  have e1 : has pgK n (x :: p) = (decide (x.f0 = n) || has pgK n p) := rfl
  have e2 : look pgK (fun x => x.f1) n (x :: p) = if x.f0 = n then x.f1 else look pgK (fun x => x.f1) n p := rfl
  rw [e1, e2]
  by_cases hx : x.f0 = n
  · rw [if_pos hx, if_pos hx, decide_eq_true hx, Bool.true_or, if_pos rfl]
  rw [if_neg hx, if_neg hx, decide_eq_false hx, Bool.false_or]
theorem ref04_Prot_l0 (l : List SM) (m : List SC) (b : Int) (p : List SP) (hp : p.length ≤ 1000000) (n : Int) : ∀ (k i : Nat), i ≤ p.length → p.length - i < k → ferryref04_Prot.l0 k n (i : Int) l m b p = some (protP (p.drop i) n)
  | 0, i, _, h => by omega
  | k + 1, i, hi, h => by
    unfold ferryref04_Prot.l0
    by_cases hlt : i < p.length
    · have hw : wrap64 ((i : Int) + 1) = ((i + 1 : Nat) : Int) := by unfold wrap64; omega
      rw [if_pos (by omega), if_pos (by omega), pg_getR hlt, hw, ref04_Prot_l0 l m b p hp n k (i + 1) hlt (by omega), List.drop_eq_getElem_cons hlt, protP_cons]
      split <;> rfl
    rw [if_neg (by omega), List.drop_eq_nil_of_le (by omega)]
    rfl
theorem ref04_Prot (l : List SM) (m : List SC) (b : Int) (p : List SP) (hp : p.length ≤ 1000000) (n : Int) (k : Nat) (hk : p.length < k) : ferryref04_Prot.f k l m b p n = some (protP p n) := ref04_Prot_l0 l m b p hp n k 0 (Nat.zero_le _) (by omega)
theorem hoR_eq {b n : Int} (hb : BaseG b) (n0 : 0 ≤ n) (n1 : n < 1048576) : IntKind.u64.wrap (Int.tdiv (IntKind.u64.wrap (b + (IntKind.u64.wrap ((IntKind.u64.wrap n) * 4096)))) 16384) = hoN b n := by
  have h0 := hb.b0
  have h1 := hb.b1
  have h2 := hb.b2
  unfold hoN
  rw [u64w n, u64w (_ * 4096), u64w (b + _), Int.tdiv_eq_ediv_of_nonneg (by omega), u64w]
  omega
theorem usedN_cons (x : SP) (p : List SP) (b a : Int) : usedN (x :: p) b a = (decide (hoN b x.f0 = a) || usedN p b a) := rfl
theorem ref04_used_l0 (l : List SM) (m : List SC) {b : Int} (hb : BaseG b) {p : List SP} (pp : ∀ x ∈ p, 0 ≤ x.f0 ∧ x.f0 < 1048576) (hp : p.length ≤ 1000000) (a : Int) : ∀ (k i : Nat), i ≤ p.length → p.length - i < k → ferryref04_used.l0 k a (i : Int) l m b p = some (usedN (p.drop i) b a)
  | 0, i, _, h => by omega
  | k + 1, i, hi, h => by
    unfold ferryref04_used.l0
    by_cases hlt : i < p.length
    · have hw : wrap64 ((i : Int) + 1) = ((i + 1 : Nat) : Int) := by unfold wrap64; omega
      have hx := pp _ (List.getElem_mem hlt)
      rw [if_pos (by omega), if_pos (by omega), pg_getR hlt, hw, hoR_eq hb hx.1 hx.2, ref04_used_l0 l m hb pp hp a k (i + 1) hlt (by omega), List.drop_eq_getElem_cons hlt, usedN_cons]
      by_cases h2 : hoN b p[i].f0 = a
      · rw [if_pos h2, decide_eq_true h2, Bool.true_or]
      rw [if_neg h2, decide_eq_false h2, Bool.false_or]
    rw [if_neg (by omega), List.drop_eq_nil_of_le (by omega)]
    rfl
theorem ref04_used (l : List SM) (m : List SC) {b : Int} (hb : BaseG b) {p : List SP} (pp : ∀ x ∈ p, 0 ≤ x.f0 ∧ x.f0 < 1048576) (hp : p.length ≤ 1000000) (a : Int) (k : Nat) (hk : p.length < k) : ferryref04_used.f k l m b p a = some (usedN p b a) := ref04_used_l0 l m hb pp hp a k 0 (Nat.zero_le _) (by omega)
theorem ref04_own (l : List SM) (m : List SC) {b : Int} (hb : BaseG b) (p : List SP) {a : Int} (a0 : 0 ≤ a) (a1 : a < 18446744073709551616) : ferryref04_own.f l m b p a = some (if b ≤ a ∧ a - b < 4294967296 then ((a - b) / 4096, true) else (0, false)) := by
  have h0 := hb.b0
  have h1 := hb.b1
  unfold ferryref04_own.f
  by_cases h : b ≤ a
  · rw [if_neg (by omega), u64w (a - b)]
    by_cases h2 : a - b < 4294967296
    · rw [if_neg (by omega), if_pos ⟨h, h2⟩, Int.tdiv_eq_ediv_of_nonneg (by omega), u64w, show (a - b) % 18446744073709551616 / 4096 % 18446744073709551616 % 4294967296 = (a - b) / 4096 by omega]
    rw [if_pos (by omega), if_neg (fun e => h2 e.2)]
  rw [if_pos (by omega), if_neg (fun e => h e.1)]
section
variable {l : List SM} {m : List SC} {b : Int} {p : List SP} {g : Bool}
theorem ref04_Fit_l2 (hg : g = true ↔ FitG l m b p) (FH : FitH l m) (B : BaseG b) (P : PagesG p) (pm : ∀ x ∈ p, has mpK (hoN b x.f0) l = true)
    (lm : ∀ y ∈ l, b ≤ y.f0 * 16384 → y.f0 * 16384 - b < 4294967296 → y.f1 = 3 ∧ ∃ x ∈ p, hoN b x.f0 = y.f0) : ∀ (k i : Nat), i ≤ m.length → (m.length - i) + p.length + 1 < k →
    (∀ (j : Nat) (hj : j < m.length), j < i → b ≤ m[j].f0 → m[j].f0 - b < 4294967296 → ∃ x ∈ p, x.f0 = (m[j].f0 - b) / 4096) → ferryref04_Fit.l2 k (i : Int) l m b p = some g
  | 0, i, _, h, _ => by omega
  | k + 1, i, hi, h, hn => by
    unfold ferryref04_Fit.l2
    have hm := FH.mn
    have hpn := P.pn
    by_cases hlt : i < m.length
    · have hw : wrap64 ((i : Int) + 1) = ((i + 1 : Nat) : Int) := by unfold wrap64; omega
      have hx := FH.mp _ (List.getElem_mem hlt)
      rw [if_pos (by omega), if_pos (by omega), cl_getR hlt, hw, ref04_own l m B p hx.1 hx.2.1, Option.bind_some]
      have go : (b ≤ m[i].f0 → m[i].f0 - b < 4294967296 → ∃ x ∈ p, x.f0 = (m[i].f0 - b) / 4096) → ferryref04_Fit.l2 k ((i + 1 : Nat) : Int) l m b p = some g := fun hc =>
        ref04_Fit_l2 hg FH B P pm lm k (i + 1) hlt (by omega) (fun j hj hji => by
          rcases Nat.lt_or_ge j i with h1 | h1
          · exact hn j hj h1
          · obtain rfl : j = i := by omega
            exact hc)
      by_cases ha : b ≤ m[i].f0 ∧ m[i].f0 - b < 4294967296
      · rw [if_pos ha, if_pos rfl, ref04_Prot l m b p (by omega) _ k (by omega), Option.bind_some]
        have hd := protP_neg P.pr (fun x hx => (P.pp x hx).2.2.1) ((m[i].f0 - b) / 4096)
        cases hh : has pgK ((m[i].f0 - b) / 4096) p with
        | true =>
          rw [hh] at hd
          obtain ⟨x, hx, e⟩ := has_mem.1 hh
          rw [if_neg (of_decide_eq_false hd)]
          exact go (fun _ _ => ⟨x, hx, e⟩)
        | false =>
          rw [hh] at hd
          rw [if_pos (of_decide_eq_true hd)]
          refine congrArg some (Eq.symm (Bool.eq_false_iff.2 (fun e => ?_)))
          obtain ⟨x, hx, e2⟩ := (hg.1 e).cm _ (List.getElem_mem hlt) ha.1 ha.2
          rw [has_mem.2 ⟨x, hx, e2⟩] at hh
          cases hh
      rw [if_neg ha, if_neg (by simp)]
      exact go (fun h1 h2 => absurd ⟨h1, h2⟩ ha)
    rw [if_neg (by omega)]
    refine congrArg some (Eq.symm (hg.2 ⟨FH, B, P, pm, lm, fun c hc => ?_⟩))
    obtain ⟨j, hj, rfl⟩ := List.getElem_of_mem hc
    exact hn j hj (by omega)
theorem ref04_Fit_l1 (hg : g = true ↔ FitG l m b p) (FH : FitH l m) (B : BaseG b) (P : PagesG p) (pm : ∀ x ∈ p, has mpK (hoN b x.f0) l = true) : ∀ (k i : Nat), i ≤ l.length → (l.length - i) + m.length + p.length + 2 < k →
    (∀ (j : Nat) (hj : j < l.length), j < i → b ≤ l[j].f0 * 16384 → l[j].f0 * 16384 - b < 4294967296 → l[j].f1 = 3 ∧ ∃ x ∈ p, hoN b x.f0 = l[j].f0) → ferryref04_Fit.l1 k (i : Int) l m b p = some g
  | 0, i, _, h, _ => by omega
  | k + 1, i, hi, h, hn => by
    unfold ferryref04_Fit.l1
    have hm := FH.ln
    have hpn := P.pn
    by_cases hlt : i < l.length
    · have hw : wrap64 ((i : Int) + 1) = ((i + 1 : Nat) : Int) := by unfold wrap64; omega
      have hx := FH.lp _ (List.getElem_mem hlt)
      rw [if_pos (by omega), if_pos (by omega), mp_getR hlt, hw, u64w, show l[i].f0 * 16384 % 18446744073709551616 = l[i].f0 * 16384 by omega, ref04_own l m B p (by omega) (by omega), Option.bind_some]
      have go : (b ≤ l[i].f0 * 16384 → l[i].f0 * 16384 - b < 4294967296 → l[i].f1 = 3 ∧ ∃ x ∈ p, hoN b x.f0 = l[i].f0) → ferryref04_Fit.l1 k ((i + 1 : Nat) : Int) l m b p = some g := fun hc =>
        ref04_Fit_l1 hg FH B P pm k (i + 1) hlt (by omega) (fun j hj hji => by
          rcases Nat.lt_or_ge j i with h1 | h1
          · exact hn j hj h1
          · obtain rfl : j = i := by omega
            exact hc)
      have no : ∀ (ha : b ≤ l[i].f0 * 16384 ∧ l[i].f0 * 16384 - b < 4294967296), ¬ (l[i].f1 = 3 ∧ ∃ x ∈ p, hoN b x.f0 = l[i].f0) → some false = some g := fun ha hh =>
        congrArg some (Eq.symm (Bool.eq_false_iff.2 (fun e => hh ((hg.1 e).lm _ (List.getElem_mem hlt) ha.1 ha.2))))
      by_cases ha : b ≤ l[i].f0 * 16384 ∧ l[i].f0 * 16384 - b < 4294967296
      · rw [if_pos ha, if_pos rfl]
        by_cases h3 : l[i].f1 = 3
        · rw [if_pos h3, ref04_used l m B (fun x hx => ⟨(P.pp x hx).1, (P.pp x hx).2.1⟩) (by omega) _ k (by omega), Option.bind_some]
          cases hu : usedN p b l[i].f0 with
          | true =>
            rw [if_pos rfl]
            exact go (fun _ _ => ⟨h3, usedN_iff.1 hu⟩)
          | false =>
            rw [if_neg (by decide)]
            exact no ha (fun e => by rw [usedN_iff.2 e.2] at hu; cases hu)
        rw [if_neg h3]
        exact no ha (fun e => h3 e.1)
      rw [if_neg ha, if_neg (by simp)]
      exact go (fun h1 h2 => absurd ⟨h1, h2⟩ ha)
    rw [if_neg (by omega)]
    refine ref04_Fit_l2 hg FH B P pm (fun y hy => ?_) k 0 (Nat.zero_le _) (by omega) (fun j _ hj => by omega)
    obtain ⟨j, hj, rfl⟩ := List.getElem_of_mem hy
    exact hn j hj (by omega)
theorem ref04_Fit_l0 (hg : g = true ↔ FitG l m b p) (FH : FitH l m) (B : BaseG b) (hpn : p.length ≤ 256) (wp : ∀ x ∈ p, wfP x) : ∀ (k i : Nat), i ≤ p.length → 2 * (p.length - i) + l.length + m.length + p.length + 3 < k →
    (∀ (j : Nat) (hj : j < p.length), j < i → (p[j].f0 < 1048576 ∧ 0 ≤ p[j].f1 ∧ p[j].f1 ≤ 7) ∧ prevGe pgK p j (pgK p[j]) = false ∧ has mpK (hoN b p[j].f0) l = true) → ferryref04_Fit.l0 k (i : Int) l m b p = some g
  | 0, i, _, h, _ => by omega
  | k + 1, i, hi, h, hn => by
    unfold ferryref04_Fit.l0
    have hm := FH.ln
    by_cases hlt : i < p.length
    · have hw : wrap64 ((i : Int) + 1) = ((i + 1 : Nat) : Int) := by unfold wrap64; omega
      have hx : (0 ≤ p[i].f0 ∧ p[i].f0 ≤ 4294967295) ∧ _ := wp _ (List.getElem_mem hlt)
      obtain ⟨k, rfl⟩ : ∃ q, k = q + 1 := ⟨k - 1, by omega⟩
      have hj2 : ∀ t f0 f1, ferryref04_Fit.j2 (k + 1) (i : Int) t l m b p f0 f1 = if t = true then some false else (ferryref03_Place.f k l m (IntKind.u64.wrap (Int.tdiv (IntKind.u64.wrap (b + (IntKind.u64.wrap ((IntKind.u64.wrap f0) * 4096)))) 16384))).bind fun t115 => (if t115 < 0 then (some false) else (ferryref04_Fit.l0 k (wrap64 ((i : Int) + 1)) l m b p)) := fun t f0 f1 => rfl
      have no : ¬ ((p[i].f0 < 1048576 ∧ 0 ≤ p[i].f1 ∧ p[i].f1 ≤ 7) ∧ prevGe pgK p i (pgK p[i]) = false ∧ has mpK (hoN b p[i].f0) l = true) → some false = some g := fun hh =>
        congrArg some (Eq.symm (Bool.eq_false_iff.2 (fun e => hh (by
          have hf := hg.1 e
          have hy := hf.pages.pp _ (List.getElem_mem hlt)
          exact ⟨hy.2, (rises_prev p).1 hf.pages.pr i hlt, hf.pm _ (List.getElem_mem hlt)⟩))))
      rw [if_pos (by omega), if_pos (by omega), pg_getR hlt]
      by_cases h1 : p[i].f0 ≥ 1048576
      · rw [if_pos h1, hj2, if_pos rfl]
        exact no (fun e => by omega)
      rw [if_neg h1]
      by_cases h2 : p[i].f1 < 0
      · rw [if_pos h2, hj2, if_pos rfl]
        exact no (fun e => by omega)
      rw [if_neg h2]
      by_cases h3 : p[i].f1 > 7
      · rw [if_pos h3, hj2, if_pos rfl]
        exact no (fun e => by omega)
      have hj3 : ∀ t, ferryref04_Fit.j2 (k + 1) (i : Int) t l m b p p[i].f0 p[i].f1 = if t = true then some false else (if placeR l (hoN b p[i].f0) < 0 then some false else ferryref04_Fit.l0 k ((i + 1 : Nat) : Int) l m b p) := fun t => by
        rw [hj2, hw, hoR_eq B hx.1.1 (by omega), ref_place _ l m (by omega) k (by omega), Option.bind_some]
      rw [if_neg h3]
      have hpl := placeR_has l (hoN b p[i].f0)
      have go : prevGe pgK p i (pgK p[i]) = false → (if placeR l (hoN b p[i].f0) < 0 then some false else ferryref04_Fit.l0 k ((i + 1 : Nat) : Int) l m b p) = some g := fun hpv => by
        cases hh : has mpK (hoN b p[i].f0) l with
        | false =>
          rw [hh] at hpl
          rw [if_pos (of_decide_eq_true hpl)]
          exact no (fun e => by rw [hh] at e; cases e.2.2)
        | true =>
          rw [hh] at hpl
          rw [if_neg (of_decide_eq_false hpl)]
          exact ref04_Fit_l0 hg FH B hpn wp k (i + 1) hlt (by omega) (fun j hj hji => by
            rcases Nat.lt_or_ge j i with h4 | h4
            · exact hn j hj h4
            · obtain rfl : j = i := by omega
              exact ⟨⟨by omega, by omega, by omega⟩, hpv, hh⟩)
      by_cases hi0 : (i : Int) > 0
      · obtain ⟨i, rfl⟩ : ∃ q, i = q + 1 := ⟨i - 1, by omega⟩
        have hw2 : wrap64 (((i + 1 : Nat) : Int) - 1) = ((i : Nat) : Int) := by unfold wrap64; omega
        have hpv : prevGe pgK p (i + 1) (pgK p[i + 1]) = decide ((p[i]'(by omega)).f0 ≥ p[i + 1].f0) := prevGe_succ pgK p i (by omega) _
        rw [if_pos hi0, hw2, if_pos (by omega), if_pos (by omega), pg_getR (by omega), hj3]
        rw [hpv] at go
        by_cases h4 : (p[i]'(by omega)).f0 ≥ p[i + 1].f0
        · rw [decide_eq_true h4, if_pos rfl]
          exact no (fun e => by rw [hpv, decide_eq_true h4] at e; cases e.2.1)
        rw [decide_eq_false h4, if_neg (by decide)]
        exact go (decide_eq_false h4)
      rw [if_neg hi0, hj3, if_neg (by decide)]
      refine go ?_
      obtain rfl : i = 0 := by omega
      rfl
    rw [if_neg (by omega)]
    have hi2 : ∀ (j : Nat) (hj : j < p.length), _ := fun j hj => hn j hj (by omega)
    have P : PagesG p := ⟨hpn, (rises_prev p).2 (fun j hj => (hi2 j hj).2.1), fun x hx => by
      obtain ⟨j, hj, rfl⟩ := List.getElem_of_mem hx
      have hx2 : (0 ≤ p[j].f0 ∧ p[j].f0 ≤ 4294967295) ∧ _ := wp _ hx
      exact ⟨hx2.1.1, (hi2 j hj).1⟩⟩
    refine ref04_Fit_l1 hg FH B P (fun x hx => ?_) k 0 (Nat.zero_le _) (by omega) (fun j _ hj => by omega)
    obtain ⟨j, hj, rfl⟩ := List.getElem_of_mem hx
    exact (hi2 j hj).2.2
end
theorem ref04_Fit {l : List SM} {m : List SC} {b : Int} {p : List SP} (wl : ∀ x ∈ l, wfM x) (wm : ∀ x ∈ m, wfC x) (b0 : 0 ≤ b) (b1 : b ≤ 18446744073709551615) (wp : ∀ x ∈ p, wfP x) (hl : l.length ≤ 1000000) (hm : m.length ≤ 1000000) (k : Nat) (hk : 3 * p.length + l.length + m.length + 5 < k) :
    ferryref04_Fit.f k l m b p = some (gfitB l m b p) := by
  have hg := gfitB_iff (p := p) wl wm b0 b1 wp
  generalize gfitB l m b p = g at hg ⊢
  unfold ferryref04_Fit.f
  obtain ⟨k, rfl⟩ : ∃ q, k = q + 1 := ⟨k - 1, by omega⟩
  have hj0 : ∀ t, ferryref04_Fit.j0 (k + 1) t l m b p = if t = true then some false else ferryref04_Fit.l0 k 0 l m b p := fun t => rfl
  rw [ref_Fit_spec l m ⟨hl, hm⟩, Option.bind_some, hj0, hj0, if_pos rfl]
  have no : ¬ FitG l m b p → some false = some g := fun hh => congrArg some (Eq.symm (Bool.eq_false_iff.2 (fun e => hh (hg.1 e))))
  by_cases hf : fitR l m = true
  rotate_left
  · rw [if_neg hf]
    exact no (fun e => hf e.h.fitR)
  rw [if_pos hf, Int.tmod_eq_emod_of_nonneg b0]
  by_cases h1 : b % 16384 = 0
  rotate_left
  · rw [if_neg h1]
    exact no (fun e => h1 e.base.b2)
  rw [if_pos h1]
  by_cases h2 : b > 4611686018427387904
  · rw [if_pos h2]
    exact no (fun e => by have := e.base.b1; omega)
  rw [if_neg h2]
  by_cases h3 : (p.length : Int) > 256
  · rw [decide_eq_true h3, if_pos rfl]
    exact no (fun e => by have := e.pages.pn; omega)
  rw [decide_eq_false h3, if_neg (by decide)]
  exact ref04_Fit_l0 hg ((fitR_iff wl wm).1 hf) ⟨b0, by omega, h1⟩ (by omega) wp k 0 (Nat.zero_le _) (by omega) (fun j _ hj => by omega)
def eqPg (x y : SP) : Bool := (x.f0 == y.f0) && (x.f1 == y.f1)
def sameG (l : List SM) (m : List SC) (b : Int) (p : List SP) (l' : List SM) (m' : List SC) (b' : Int) (p' : List SP) : Bool := sameS l m l' m' && (decide (b = b') && eqL eqPg p p')
theorem sameG_refl (l : List SM) (m : List SC) (b : Int) (p : List SP) : sameG l m b p l m b p = true := by
  unfold sameG
  rw [sameS_refl, decide_eq_true rfl, eqL_refl (fun x => by unfold eqPg; simp) p]
  rfl
theorem ref04_Same_l0 (l : List SM) (m : List SC) (b : Int) (p : List SP) (l' : List SM) (m' : List SC) (b' : Int) (p' : List SP) (e : p.length = p'.length) (hp : p.length ≤ 1000000) : ∀ (k i : Nat), i ≤ p.length → p.length - i < k → ferryref04_Same.l0 k (i : Int) l m b p l' m' b' p' = some (eqL eqPg (p.drop i) (p'.drop i))
  | 0, i, _, h => by omega
  | k + 1, i, hi, h => by
    unfold ferryref04_Same.l0
    by_cases hlt : i < p.length
    · have hw : wrap64 ((i : Int) + 1) = ((i + 1 : Nat) : Int) := by unfold wrap64; omega
      rw [if_pos (by omega), if_pos (by omega), if_pos (by omega), pg_getR hlt, pg_getR (by omega), hw, ref04_Same_l0 l m b p l' m' b' p' e hp k (i + 1) hlt (by omega), List.drop_eq_getElem_cons hlt, List.drop_eq_getElem_cons (show i < p'.length by omega)]
      rw [show eqL eqPg (p[i] :: p.drop (i + 1)) (p'[i] :: p'.drop (i + 1)) = (eqPg p[i] p'[i] && eqL eqPg (p.drop (i + 1)) (p'.drop (i + 1))) from rfl]
      unfold eqPg
      cases (p[i].f0 == p'[i].f0) <;> cases (p[i].f1 == p'[i].f1) <;> rfl
    rw [if_neg (by omega), List.drop_eq_nil_of_le (by omega), List.drop_eq_nil_of_le (by omega)]
    rfl
theorem ref04_Same (l : List SM) (m : List SC) (b : Int) (p : List SP) (l' : List SM) (m' : List SC) (b' : Int) (p' : List SP) (hl : l.length ≤ 1000000) (hm : m.length ≤ 1000000) (hp : p.length ≤ 1000000) (k : Nat) (hk : l.length + m.length + p.length + 3 < k) :
    ferryref04_Same.f k l m b p l' m' b' p' = some (sameG l m b p l' m' b' p') := by
  unfold ferryref04_Same.f sameG
  obtain ⟨k, rfl⟩ : ∃ q, k = q + 1 := ⟨k - 1, by omega⟩
  have hj0 : ∀ t, ferryref04_Same.j0 (k + 1) t l m b p l' m' b' p' = if t = true then some false else ferryref04_Same.l0 k 0 l m b p l' m' b' p' := fun t => rfl
  rw [ref_Same l m l' m' hl hm (k + 1) (by omega), Option.bind_some, hj0, hj0, if_pos rfl]
  cases hs : sameS l m l' m' with
  | false => rfl
  | true =>
    rw [if_pos rfl, Bool.true_and]
    by_cases hb : b = b'
    · rw [if_pos hb, decide_eq_true hb, Bool.true_and]
      by_cases e : p.length = p'.length
      · rw [bne_eq_false_iff_eq.2 (by omega), if_neg (by decide)]
        exact ref04_Same_l0 l m b p l' m' b' p' e hp k 0 (Nat.zero_le _) (by omega)
      rw [bne_iff_ne.2 (by omega), if_pos rfl]
      cases h : eqL eqPg p p' with
      | false => rfl
      | true => exact absurd (eqL_length h) e
    rw [if_neg hb, decide_eq_false hb, Bool.false_and]
end Go.Proofs.Ytgkjdpdmmlalcaa.F
end
section
namespace Go.Proofs.Ytgkjdpdmmlalcaa.F
open Go.RowKit Go.Shelf Go.Proofs.YtgkjdpdmmlalcaaW.PrintWords Go.Proofs.YtgkjdpdmmlalcaaW.PrintLast Go.Proofs.YtgkjdpdmmlalcaaW.PrintMore
set_option linter.unusedVariables false
set_option linter.unusedSimpArgs false
attribute [local go_sem] Oper.semAt_some
def moreG (a : Int) (n : Nat) (q : Int) : List SP := (List.range n).map (fun i : Nat => ⟨(a + ((i : Nat) : Int)) % 4294967296, q⟩)
def GuestV (W : World) (v0 v1 v3 : Value) (l : List SM) (m : List SC) (p : List SP) : Prop := SlV kM W v0 l ∧ SlV kC W v1 m ∧ SlV kP W v3 p
def RetG (W : World) (l : List SM) (m : List SC) (b : Int) (p : List SP) (f : Value → Value) : Ending → World → Prop := fun e w' => ∃ A0 c0 A1 c1 A3 c3, e = .returned (f (.agg #[.slice A0 l.length c0, .slice A1 m.length c1, .int .u64 b, .slice A3 p.length c3])) ∧ GuestV w' (.slice A0 l.length c0) (.slice A1 m.length c1) (.slice A3 p.length c3) l m p ∧ Below W.heap.size W w'
def RetA (W : World) (ok : Nat → Prop) (l : List SM) (m : List SC) (b : Int) (p : List SP) (f : Value → Value) : Ending → World → Prop := fun e w' => ∃ A0 c0 A1 c1 A3 c3, e = .returned (f (.agg #[.slice A0 l.length c0, .slice A1 m.length c1, .int .u64 b, .slice A3 p.length c3])) ∧ RowsG w' (fun k => ok k ∨ W.heap.size ≤ k) A0 c0 A1 c1 A3 c3 l m p ∧ Below W.heap.size W w'
theorem RetA.G {W : World} {ok : Nat → Prop} {l : List SM} {m : List SC} {b : Int} {p : List SP} {f : Value → Value} {e : Ending} {w' : World} (h : RetA W ok l m b p f e w') : RetG W l m b p f e w' := by
  obtain ⟨A0, c0, A1, c1, A3, c3, he, hr, hb⟩ := h
  exact ⟨A0, c0, A1, c1, A3, c3, he, ⟨SlV.of_view hr.1, SlV.of_view hr.2.1, SlV.of_view hr.2.2⟩, hb⟩
theorem OwnP.V {W : World} {B : Nat} {A : Option Addr} {c : Nat} {p : List SP} (h : OwnP W B A c p) : Kd.V kP 41 W 0 (fun k => B ≤ k) (.slice A p.length c) p := Kd.V_mono (Kd.R_V (base' := 0) (Kd.R_bound h.R)) (fun k hk => hk.2.1)
theorem OwnP.own {W W' : World} {B : Nat} {A : Option Addr} {c : Nat} {p : List SP} {row : Option Nat} (h : OwnP W B A c p) (hg : W.grownBy W' row) (hr : ∀ r, row = some r → ∃ o : Obj, W.heap[r]? = some o ∧ o.isCells = false) : OwnP W' B A c p := by
  rcases h with h | ⟨g, e, hB, cur, h0, h1⟩
  · exact .inl h
  · exact .inr ⟨g, e, hB, cur, blk_own h0 hg hr, h1⟩
theorem OwnP.C {W : World} {B : Nat} {A : Option Addr} {c : Nat} {p : List SP} (h : OwnP W B A c p) : Kd.C kP W A p.length p ∧ p.length ≤ c := by
  obtain ⟨A', c', e, h1, h2⟩ := Kd.R_reads h.R
  cases e
  exact ⟨h2, h1⟩
def okGM (okI : Nat → Prop) (w : World) (gw : Nat) (A3 : Option Addr) (k : Nat) : Prop := ((okI k ∧ k < w.heap.size) ∨ gw + 1 + 1 ≤ k) ∧ ∀ g, A3 = some ⟨g, 0, none⟩ → k ≠ g
theorem OwnP.lt {W : World} {B : Nat} {A : Option Addr} {c : Nat} {p : List SP} (h : OwnP W B A c p) {g : Nat} (e : A = some ⟨g, 0, none⟩) : B ≤ g ∧ g < W.heap.size := by
  rcases h with h | ⟨g', e', hB, ho⟩
  · rw [h.1] at e
    cases e
  · rw [e'] at e
    cases e
    exact ⟨hB, ho.lt⟩
structure MapI (okI : Nat → Prop) (w W : World) (gv : Array Value) (gw B : Nat) (b a n : Int) (p2 : List SP) (st : List SM × List SC) : Prop where
  bel : Below w.heap.size w W
  c4 : W.heap[w.heap.size]? = some (.cells gv 29 (0, 0))
  c8 : W.heap[w.heap.size + 1]? = some (.cells #[.slice none 0 0, .slice none 0 0, .int .u64 0, .slice none 0 0] 29 (0, 0))
  c9 : W.heap[w.heap.size + 1 + 1]? = some (.cells #[.int .i64 0] 53 (0, 0))
  c10 : W.heap[gw + 1]? = some (.cells #[.pointer (some ⟨gw, 0, none⟩)] 133 (0, 0))
  h0 : W.heap[B]? = some (.cells #[.pointer (some ⟨gw, 0, none⟩)] 133 (0, 0))
  h1 : W.heap[B + 1]? = some (.cells #[.int .u32 a] 30 (0, 0))
  h2 : W.heap[B + 1 + 1]? = some (.cells #[.int .u32 n] 30 (0, 0))
  cw : ∃ A0 c0 A1 c1 A3 c3, W.heap[gw]? = some (.cells #[.slice A0 st.1.length c0, .slice A1 st.2.length c1, .int .u64 b, .slice A3 p2.length c3] 135 (0, 0)) ∧ RowsH W (okGM okI w gw A3) A0 c0 A1 c1 st.1 st.2 ∧ OwnP W (gw + 1 + 1) A3 c3 p2
  fit : FitH st.1 st.2
section
variable {okI : Nat → Prop} {w W W' : World} {gv : Array Value} {gw B : Nat} {b a n : Int} {p2 : List SP} {st : List SM × List SC}
theorem MapI.below (h : MapI okI w W gv gw B b a n p2 st) (hb : Below W.heap.size W W') : MapI okI w W' gv gw B b a n p2 st := by
  obtain ⟨A0, c0, A1, c1, A3, c3, hc, hR, hO⟩ := h.cw
  exact ⟨h.bel.trans (hb.mono h.bel.size), blk_below h.c4 hb, blk_below h.c8 hb, blk_below h.c9 hb, blk_below h.c10 hb, blk_below h.h0 hb, blk_below h.h1 hb, blk_below h.h2 hb,
    ⟨A0, c0, A1, c1, A3, c3, blk_below hc hb, hR.below hb, hO.move (fun k _ hk => hb.block k hk)⟩, h.fit⟩
theorem MapI.own {row : Option Nat} (h : MapI okI w W gv gw B b a n p2 st) (hg : W.grownBy W' row) (hr : ∀ r, row = some r → w.heap.size ≤ r ∧ ∃ o : Obj, W.heap[r]? = some o ∧ o.isCells = false) : MapI okI w W' gv gw B b a n p2 st := by
  obtain ⟨A0, c0, A1, c1, A3, c3, hc, hR, hO⟩ := h.cw
  have hr' := fun r e => (hr r e).2
  exact ⟨h.bel.grown hg h.bel.size (fun k e => (hr k e).1), blk_own h.c4 hg hr', blk_own h.c8 hg hr', blk_own h.c9 hg hr', blk_own h.c10 hg hr', blk_own h.h0 hg hr', blk_own h.h1 hg hr', blk_own h.h2 hg hr',
    ⟨A0, c0, A1, c1, A3, c3, blk_own hc hg hr', hR.own hg hr', hO.own hg hr'⟩, h.fit⟩
theorem MapI.put {A0 A1 A3 : Option Addr} {c0 c1 c3 : Nat} {x y : Value} {l' : List SM} {m' : List SC} (h : MapI okI w W gv gw B b a n p2 st) (hz : w.heap.size + 1 + 1 < gw) (hB : gw + 1 < B) (hc : W.heap[gw]? = some (.cells #[x, y, .int .u64 b, .slice A3 p2.length c3] 135 (0, 0)))
    (hR : RowsH W (okGM okI w gw A3) A0 c0 A1 c1 l' m') (ho : OwnP W (gw + 1 + 1) A3 c3 p2) (hF : FitH l' m') : MapI okI w ((W.setCell ⟨gw, 0, none⟩ (.slice A0 l'.length c0)).setCell ⟨gw, 1, none⟩ (.slice A1 m'.length c1)) gv gw B b a n p2 (l', m') := by
  have F : ∀ {k : Nat} {cs : Array Value} {t : TypeId}, W.heap[k]? = some (.cells cs t (0, 0)) → k ≠ gw → ((W.setCell ⟨gw, 0, none⟩ (.slice A0 l'.length c0)).setCell ⟨gw, 1, none⟩ (.slice A1 m'.length c1)).heap[k]? = some (.cells cs t (0, 0)) := fun hh hn => blk_far2 hh hn _ _
  exact ⟨(h.bel.setCell (p := ⟨gw, 0, none⟩) (by show w.heap.size ≤ gw; omega) _).setCell (p := ⟨gw, 1, none⟩) (by show w.heap.size ≤ gw; omega) _, F h.c4 (by omega), F h.c8 (by omega), F h.c9 (by omega), F h.c10 (by omega), F h.h0 (by omega), F h.h1 (by omega), F h.h2 (by omega),
    ⟨A0, c0, A1, c1, A3, c3, blk_put (blk_put hc 0 _ rfl) 1 _ rfl, hR.move (fun k hk _ => (set_far (show k ≠ gw by have h1 := hk.1; omega)).trans (set_far (show k ≠ gw by have h1 := hk.1; omega))), ho.move (fun k hk _ => (set_far (by omega)).trans (set_far (by omega)))⟩, hF⟩
end
def gMap.T21 : Bool × List (List Nat × List Nat) := (true, [([], []), ([], []), ([1], [1]), ([2], [2]), ([3], [3]), ([4], [4]), ([], []), ([], []), ([5, 6, 7], [5, 6, 7]), ([0, 0, 1, 2, 3, 4, 5, 6, 7, 8], [0]), ([9, 0, 1, 2, 3, 4, 5, 6, 7, 8], [9]), ([10, 0, 1, 2, 3, 4, 5, 6, 7, 8], [10]), ([11, 8, 8, 0, 1, 2, 3, 4, 5, 6, 7, 8], [8, 11])])
def gMap.B21 : List Nat := [0, 0, 2, 6, 14, 30, 0, 0, 254, 511, 1023, 2047, 4095]
theorem gMap.tab21 : rtab .any (opsOf Try.f64 21) = gMap.T21 := by kernel_rfl
theorem gMap.bits21 : waitsOk gMap.T21.2 gMap.B21 = true := by kernel_rfl
end Go.Proofs.Ytgkjdpdmmlalcaa.F
end
section
namespace Go.Proofs.Ytgkjdpdmmlalcaa.F
open Go.RowKit Go.Shelf Go.Proofs.YtgkjdpdmmlalcaaW.PrintWords Go.Proofs.YtgkjdpdmmlalcaaW.PrintLast Go.Proofs.YtgkjdpdmmlalcaaW.PrintMore
set_option linter.unusedVariables false
set_option linter.unusedSimpArgs false
def wrongG (a n q : Int) : Bool := decide (n = 0 ∨ a ≥ 1048576 ∨ n > 1048576 - a ∨ q < 0 ∨ q > 7)
theorem wrongG_no {a n q : Int} (n0 : 0 ≤ n) (h : ¬ wrongG a n q = true) : 0 < n ∧ a + n ≤ 1048576 ∧ 0 ≤ q ∧ q ≤ 7 := by
  unfold wrongG at h
  have h2 : ¬ (n = 0 ∨ a ≥ 1048576 ∨ n > 1048576 - a ∨ q < 0 ∨ q > 7) := fun e => h (decide_eq_true e)
  omega
theorem inP_eq {x : SP} {a n : Int} (x0 : 0 ≤ x.f0) (x1 : x.f0 < 4294967296) (a0 : 0 ≤ a) : inP x a n = decide (a ≤ x.f0 ∧ x.f0 - a < n) := by
  unfold inP
  rw [u32w]
  by_cases h : a ≤ x.f0
  · rw [decide_eq_true (show x.f0 ≥ a from h), Bool.true_and, show (x.f0 - a) % 4294967296 = x.f0 - a by omega]
    by_cases h2 : x.f0 - a < n
    · rw [decide_eq_true h2, decide_eq_true (show a ≤ x.f0 ∧ x.f0 - a < n from ⟨h, h2⟩)]
    rw [decide_eq_false h2, decide_eq_false (show ¬ (a ≤ x.f0 ∧ x.f0 - a < n) from fun e => h2 e.2)]
  rw [decide_eq_false (show ¬ x.f0 ≥ a from h), Bool.false_and, decide_eq_false (show ¬ (a ≤ x.f0 ∧ x.f0 - a < n) from fun e => h e.1)]
theorem moreG_length (a q : Int) (n : Nat) : (moreG a n q).length = n := by
  unfold moreG
  rw [List.length_map, List.length_range]
theorem moreG_succ (a q : Int) (n : Nat) : moreG a (n + 1) q = moreG a n q ++ [⟨(a + (n : Int)) % 4294967296, q⟩] := by
  unfold moreG
  rw [List.range_succ, List.map_append]
  rfl
def insG (l : List SP) (a n q : Int) : List SP := l.take (lowB pgK a l) ++ moreG a n.toNat q ++ l.drop (lowB pgK a l)
def mapStepL (p : List SP) (b : Int) (l : List SM) (a : Int) : Option (List SM) :=
  if usedN p b a = true then some l else if (mapS l [] a 1 3).2.2 = 0 then some (mapS l [] a 1 3).1 else none
def mapLoopL (p : List SP) (b : Int) : List Int → List SM → Option (List SM)
  | [], l => some l
  | a :: ps, l => (mapStepL p b l a).bind (mapLoopL p b ps)
theorem mapS_cells (l : List SM) (m : List SC) (a n q : Int) : mapS l m a n q = ((mapS l [] a n q).1, m, (mapS l [] a n q).2.2) := by
  unfold mapS
  repeat' split
  all_goals rfl
theorem hostsL_mem {lo hi x : Int} : x ∈ hostsL lo hi ↔ lo ≤ x ∧ x ≤ hi := by
  unfold hostsL
  rw [List.mem_map]
  constructor
  · rintro ⟨i, hi2, rfl⟩
    have := List.mem_range.1 hi2
    omega
  · rintro ⟨h1, h2⟩
    exact ⟨(x - lo).toNat, List.mem_range.2 (by omega), by omega⟩
def mapG (l : List SM) (m : List SC) (b : Int) (p : List SP) (a n q : Int) : List SM × List SC × List SP × Int :=
  if wrongG a n q = true then (l, m, p, 22)
  else if 256 - ((delS p a n).length : Int) < n then (l, m, p, 12)
  else match mapLoopL p b (hostsL (hoN b a) (hoN b (a + n - 1))) l with
    | none => (l, m, p, 105)
    | some l' => (l', clearS m (b + a * 4096) (n * 4096), insG (delS p a n) a n q, 0)
theorem delS_mem {p : List SP} (P : PagesG p) {a n : Int} (a0 : 0 ≤ a) {x : SP} : x ∈ delS p a n ↔ x ∈ p ∧ ¬ (a ≤ x.f0 ∧ x.f0 - a < n) := by
  unfold delS
  rw [List.mem_filter]
  constructor
  · rintro ⟨h1, h2⟩
    have h3 := P.pp x h1
    rw [inP_eq h3.1 (by omega) a0] at h2
    exact ⟨h1, fun e => by rw [decide_eq_true e] at h2; cases h2⟩
  · rintro ⟨h1, h2⟩
    have h3 := P.pp x h1
    refine ⟨h1, ?_⟩
    rw [inP_eq h3.1 (by omega) a0, decide_eq_false h2]
    rfl
theorem delS_P {p : List SP} (P : PagesG p) (a n : Int) : PagesG (delS p a n) :=
  ⟨Nat.le_trans (List.length_filter_le _ _) P.pn, rises_filter pgK _ P.pr, fun x hx => P.pp x (List.mem_filter.1 hx).1⟩
theorem le_mono {α : Type} {f : Nat → Option α} (h : ∀ k, LeO (f k) (f (k + 1))) {k k' : Nat} (hk : k ≤ k') {r : α} (e : f k = some r) : f k' = some r := by
  obtain ⟨d, rfl⟩ : ∃ d, k' = k + d := ⟨k' - k, by omega⟩
  clear hk
  induction d with
  | zero => exact e
  | succ d ih => exact h (k + d) _ ih
end Go.Proofs.Ytgkjdpdmmlalcaa.F
end
section
namespace Go.Proofs.Ytgkjdpdmmlalcaa.F
open Go.RowKit Go.Shelf Go.Proofs.YtgkjdpdmmlalcaaW.PrintWords Go.Proofs.YtgkjdpdmmlalcaaW.PrintLast Go.Proofs.YtgkjdpdmmlalcaaW.PrintMore
set_option linter.unusedVariables false
set_option linter.unusedSimpArgs false
structure UnI (okI : Nat → Prop) (w W : World) (gv : Array Value) (gw ND : Nat) (b : Int) (A3 : Option Addr) (c3 : Nat) (p2 : List SP) (st : List SM × List SC) : Prop where
  bel : Below w.heap.size w W
  c4 : W.heap[w.heap.size]? = some (.cells gv 29 (0, 0))
  c8 : W.heap[w.heap.size + 1]? = some (.cells #[.slice none 0 0, .slice none 0 0, .int .u64 0, .slice none 0 0] 29 (0, 0))
  cw : ∃ A0 c0 A1 c1, W.heap[gw]? = some (.cells #[.slice A0 st.1.length c0, .slice A1 st.2.length c1, .int .u64 b, .slice A3 p2.length c3] 135 (0, 0)) ∧ RowsH W (fun k => (okI k ∧ k < w.heap.size) ∨ gw + 1 ≤ k) A0 c0 A1 c1 st.1 st.2
  ow : OwnP W ND A3 c3 p2
  fit : FitH st.1 st.2
section
variable {okI : Nat → Prop} {w W W' : World} {gv : Array Value} {gw ND : Nat} {b : Int} {A3 : Option Addr} {c3 : Nat} {p2 : List SP} {st : List SM × List SC}
theorem UnI.below (h : UnI okI w W gv gw ND b A3 c3 p2 st) (hb : Below W.heap.size W W') : UnI okI w W' gv gw ND b A3 c3 p2 st := by
  obtain ⟨A0, c0, A1, c1, hc, hR⟩ := h.cw
  exact ⟨h.bel.trans (hb.mono h.bel.size), blk_below h.c4 hb, blk_below h.c8 hb, ⟨A0, c0, A1, c1, blk_below hc hb, hR.below hb⟩, h.ow.move (fun k _ hk => hb.block k hk), h.fit⟩
theorem UnI.put {A0 A1 : Option Addr} {c0 c1 : Nat} {x y : Value} {l' : List SM} {m' : List SC} (h : UnI okI w W gv gw ND b A3 c3 p2 st) (hz : w.heap.size + 1 < gw) (hN : gw < ND) (hc : W.heap[gw]? = some (.cells #[x, y, .int .u64 b, .slice A3 p2.length c3] 135 (0, 0)))
    (hR : RowsH W (fun k => (okI k ∧ k < w.heap.size) ∨ gw + 1 ≤ k) A0 c0 A1 c1 l' m') (hF : FitH l' m') : UnI okI w ((W.setCell ⟨gw, 0, none⟩ (.slice A0 l'.length c0)).setCell ⟨gw, 1, none⟩ (.slice A1 m'.length c1)) gv gw ND b A3 c3 p2 (l', m') :=
  ⟨(h.bel.setCell (p := ⟨gw, 0, none⟩) (by show w.heap.size ≤ gw; omega) _).setCell (p := ⟨gw, 1, none⟩) (by show w.heap.size ≤ gw; omega) _, blk_far2 h.c4 (by omega) _ _, blk_far2 h.c8 (by omega) _ _,
    ⟨A0, c0, A1, c1, blk_put (blk_put hc 0 _ rfl) 1 _ rfl, hR.move (fun k hk _ => (set_far (by omega)).trans (set_far (by omega)))⟩, h.ow.move (fun k hk _ => (set_far (by omega)).trans (set_far (by omega))), hF⟩
end
end Go.Proofs.Ytgkjdpdmmlalcaa.F
end
section
namespace Go.Proofs.Ytgkjdpdmmlalcaa.F
open Go.RowKit Go.Shelf Go.Proofs.YtgkjdpdmmlalcaaW.PrintWords Go.Proofs.YtgkjdpdmmlalcaaW.PrintLast Go.Proofs.YtgkjdpdmmlalcaaW.PrintMore
set_option linter.unusedVariables false
set_option linter.unusedSimpArgs false
theorem mem_ins {α : Type} {l m : List α} {i : Nat} {x : α} : x ∈ l.take i ++ m ++ l.drop i ↔ x ∈ l ∨ x ∈ m := by
  have h : x ∈ l ↔ x ∈ l.take i ∨ x ∈ l.drop i := by
    rw [← List.mem_append, List.take_append_drop]
  rw [List.mem_append, List.mem_append, h]
  exact ⟨fun h => h.elim (fun h => h.elim (fun h => .inl (.inl h)) .inr) (fun h => .inl (.inr h)), fun h => h.elim (fun h => h.elim (fun h => .inl (.inl h)) .inr) (fun h => .inl (.inr h))⟩
theorem withB_one {x a : Int} (x0 : 0 ≤ x) (x1 : x ≤ 18446744073709551615) (a0 : 0 ≤ a) : withB x a 1 = decide (x = a) := by
  rw [withB_eq x0 x1 a0]
  by_cases h : x = a
  · rw [decide_eq_true h, decide_eq_true (by omega)]
  rw [decide_eq_false h, decide_eq_false (by omega)]
theorem mapS1_ok {l : List SM} {m m' : List SC} (hF : FitH l m') {a : Int} (a0 : 0 ≤ a) (a1 : a < 1125899906842624) (h : (mapS l m a 1 3).2.2 = 0) : (∀ y, y ∈ (mapS l m a 1 3).1 ↔ y ∈ l ∨ y = ⟨a, 3⟩) ∧ ∀ y ∈ l, y.f0 ≠ a := by
  unfold mapS at h ⊢
  have hw : wrongS a 1 3 = false := by unfold wrongS; exact decide_eq_false (by omega)
  rw [hw, if_neg (by decide)] at h ⊢
  cases hany : l.any (fun x => withB x.f0 a 1) with
  | true => rw [hany, if_pos rfl] at h; cases h
  | false =>
    rw [hany, if_neg (by decide)] at h
    rw [if_neg (by decide)]
    by_cases hf : (1 : Int) > 64 - (l.length : Int)
    · rw [if_pos hf] at h
      cases h
    rw [if_neg hf]
    refine ⟨fun y => ?_, fun y hy e => ?_⟩
    · dsimp only
      rw [mem_ins]
      have e : moreP a (1 : Int).toNat 3 = [⟨a, 3⟩] := by
        show [(⟨IntKind.u64.wrap (a + ((0 : Nat) : Int)), 3⟩ : SM)] = _
        rw [u64w, show (a + ((0 : Nat) : Int)) % 18446744073709551616 = a by omega]
      rw [e, List.mem_singleton]
    · have h1 := List.any_eq_false.1 hany y hy
      have h2 := hF.lp y hy
      rw [withB_one h2.1 (by omega) a0] at h1
      exact h1 (decide_eq_true e)
theorem mapLoopL_spec {p : List SP} {b : Int} {m : List SC} : ∀ (ps : List Int) {l l' : List SM}, FitH l m → (∀ h ∈ ps, 0 ≤ h ∧ h < 1125899906842624) → mapLoopL p b ps l = some l' →
    FitH l' m ∧ (∀ y, y ∈ l' ↔ y ∈ l ∨ ∃ h ∈ ps, usedN p b h = false ∧ y = ⟨h, 3⟩) ∧ ∀ h ∈ ps, usedN p b h = false → ∀ y ∈ l, y.f0 ≠ h
  | [], l, l', hF, _, e => by
    obtain rfl : l = l' := Option.some.inj e
    exact ⟨hF, fun y => ⟨.inl, fun h => h.elim id (fun ⟨h, hh, _⟩ => nomatch hh)⟩, fun h hh => nomatch hh⟩
  | a :: ps, l, l', hF, hr, e => by
    have ha := hr a (List.mem_cons_self ..)
    have hr2 : ∀ h ∈ ps, 0 ≤ h ∧ h < 1125899906842624 := fun h hh => hr h (List.mem_cons_of_mem _ hh)
    have e2 : (mapStepL p b l a).bind (mapLoopL p b ps) = some l' := e
    clear e
    unfold mapStepL at e2
    cases hu : usedN p b a with
    | true =>
      rw [hu, if_pos rfl, Option.bind_some] at e2
      obtain ⟨h1, h2, h3⟩ := mapLoopL_spec ps hF hr2 e2
      refine ⟨h1, fun y => ?_, fun x hx hy => ?_⟩
      · rw [h2]
        constructor
        · rintro (h | ⟨x, hx, hy⟩)
          · exact .inl h
          · exact .inr ⟨x, List.mem_cons_of_mem _ hx, hy⟩
        · rintro (h | ⟨x, hx, hy⟩)
          · exact .inl h
          · rcases List.mem_cons.1 hx with rfl | hx
            · rw [hu] at hy
              cases hy.1
            · exact .inr ⟨x, hx, hy⟩
      · rcases List.mem_cons.1 hx with rfl | hx
        · rw [hu] at hy
          cases hy
        · exact h3 x hx hy
    | false =>
      rw [hu, if_neg (by decide)] at e2
      by_cases hc : (mapS l [] a 1 3).2.2 = 0
      · rw [if_pos hc, Option.bind_some] at e2
        have hF2 := hF.map (n := 1) (p := 3) ha.1
        rw [mapS_cells l m] at hF2
        obtain ⟨h1, h2, h3⟩ := mapLoopL_spec ps hF2 hr2 e2
        obtain ⟨g1, g2⟩ := mapS1_ok hF ha.1 ha.2 hc
        refine ⟨h1, fun y => ?_, fun x hx hy => ?_⟩
        · rw [h2, g1]
          constructor
          · rintro ((h | h) | ⟨x, hx, hy⟩)
            · exact .inl h
            · exact .inr ⟨a, List.mem_cons_self .., hu, h⟩
            · exact .inr ⟨x, List.mem_cons_of_mem _ hx, hy⟩
          · rintro (h | ⟨x, hx, hy⟩)
            · exact .inl (.inl h)
            · rcases List.mem_cons.1 hx with rfl | hx
              · exact .inl (.inr hy.2)
              · exact .inr ⟨x, hx, hy⟩
        · rcases List.mem_cons.1 hx with rfl | hx
          · exact g2
          · exact fun y hy2 => h3 x hx hy y ((g1 y).2 (.inl hy2))
      rw [if_neg hc] at e2
      cases e2
theorem moreG_mem {a q : Int} {n : Nat} (a0 : 0 ≤ a) (h : a + (n : Int) ≤ 1048576) {x : SP} : x ∈ moreG a n q ↔ ∃ i : Nat, i < n ∧ x = ⟨a + (i : Int), q⟩ := by
  unfold moreG
  rw [List.mem_map]
  constructor
  · rintro ⟨i, hi, rfl⟩
    have hi2 := List.mem_range.1 hi
    exact ⟨i, hi2, by rw [show (a + (i : Int)) % 4294967296 = a + (i : Int) by omega]⟩
  · rintro ⟨i, hi, rfl⟩
    exact ⟨i, List.mem_range.2 hi, by rw [show (a + (i : Int)) % 4294967296 = a + (i : Int) by omega]⟩
theorem moreG_rises {a q : Int} (a0 : 0 ≤ a) : ∀ {n : Nat}, a + (n : Int) ≤ 1048576 → Rises pgK (moreG a n q)
  | 0, _ => trivial
  | n + 1, h => by
    rw [moreG_succ]
    refine rises_append pgK (moreG_rises a0 (by omega)) trivial (fun x hx y hy => ?_)
    obtain ⟨i, hi, rfl⟩ := (moreG_mem a0 (by omega)).1 hx
    rw [List.mem_singleton] at hy
    subst hy
    show a + (i : Int) < (a + (n : Int)) % 4294967296
    omega
theorem insG_mem {d : List SP} {a n q : Int} (a0 : 0 ≤ a) (n0 : 0 ≤ n) (h : a + n ≤ 1048576) {x : SP} : x ∈ insG d a n q ↔ x ∈ d ∨ ∃ i : Nat, (i : Int) < n ∧ x = ⟨a + (i : Int), q⟩ := by
  unfold insG
  rw [mem_ins, moreG_mem a0 (by omega)]
  exact ⟨fun h => h.imp_right (fun ⟨i, hi, e⟩ => ⟨i, by omega, e⟩), fun h => h.imp_right (fun ⟨i, hi, e⟩ => ⟨i, by omega, e⟩)⟩
theorem insG_P {p : List SP} (P : PagesG p) {a n q : Int} (a0 : 0 ≤ a) (hn : 0 < n ∧ a + n ≤ 1048576 ∧ 0 ≤ q ∧ q ≤ 7) (hf : ¬ 256 - ((delS p a n).length : Int) < n) : PagesG (insG (delS p a n) a n q) := by
  have D := delS_P P a n
  have hk : ∀ x ∈ delS p a n, x.f0 < a ∨ a + n ≤ x.f0 := fun x hx => by
    have := ((delS_mem P a0).1 hx).2
    omega
  generalize delS p a n = d at D hk hf ⊢
  have hd : ∀ y ∈ d.drop (lowB pgK a d), a + n ≤ y.f0 := fun y hy => by
    have h1 := drop_lowB pgK a D.pr y hy
    have h2 := hk y (List.mem_of_mem_drop hy)
    have h3 : pgK y = y.f0 := rfl
    omega
  refine ⟨?_, ?_, fun x hx => ?_⟩
  · have hL := lowB_le pgK a d
    unfold insG
    simp only [List.length_append, moreG_length, List.length_take, List.length_drop]
    omega
  · refine rises_append pgK (rises_append pgK (rises_left pgK (m := d.drop (lowB pgK a d)) (by rw [List.take_append_drop]; exact D.pr)) (moreG_rises a0 (by omega)) (fun x hx y hy => ?_)) (rises_right pgK (l := d.take (lowB pgK a d)) (by rw [List.take_append_drop]; exact D.pr)) (fun x hx y hy => ?_)
    · have h1 := take_lowB pgK a d x hx
      obtain ⟨i, hi, rfl⟩ := (moreG_mem a0 (by omega)).1 hy
      show pgK x < a + (i : Int)
      omega
    · have h1 := hd y hy
      have h3 : pgK y = y.f0 := rfl
      rcases List.mem_append.1 hx with hx | hx
      · have h2 := take_lowB pgK a d x hx
        omega
      · obtain ⟨i, hi, rfl⟩ := (moreG_mem a0 (by omega)).1 hx
        show a + (i : Int) < pgK y
        omega
  · rcases (insG_mem a0 (by omega) hn.2.1).1 hx with h | ⟨i, hi, rfl⟩
    · exact D.pp x h
    · refine ⟨?_, ?_, hn.2.2⟩
      · show 0 ≤ a + (i : Int)
        omega
      · show a + (i : Int) < 1048576
        omega
theorem mem_clear {m : List SC} {a n : Int} {c : SC} (h : c ∈ clearS m a n) : ∃ c' ∈ m, c = clrC a n c' ∧ c.f1 ≠ 0 := by
  unfold clearS at h
  obtain ⟨h1, h2⟩ := List.mem_filter.1 h
  obtain ⟨c', hc, rfl⟩ := List.mem_map.1 h1
  exact ⟨c', hc, rfl, by simpa using h2⟩
theorem mapG_cases (l : List SM) (m : List SC) (b : Int) (p : List SP) (a n q : Int) : ((mapG l m b p a n q).1 = l ∧ (mapG l m b p a n q).2.1 = m ∧ (mapG l m b p a n q).2.2.1 = p ∧ (mapG l m b p a n q).2.2.2 ≠ 0) ∨
    (¬ wrongG a n q = true ∧ ¬ 256 - ((delS p a n).length : Int) < n ∧ ∃ l', mapLoopL p b (hostsL (hoN b a) (hoN b (a + n - 1))) l = some l' ∧ mapG l m b p a n q = (l', clearS m (b + a * 4096) (n * 4096), insG (delS p a n) a n q, 0)) := by
  unfold mapG
  by_cases hw : wrongG a n q = true
  · rw [if_pos hw]
    exact .inl ⟨rfl, rfl, rfl, show (22 : Int) ≠ 0 by decide⟩
  rw [if_neg hw]
  by_cases hf : 256 - ((delS p a n).length : Int) < n
  · rw [if_pos hf]
    exact .inl ⟨rfl, rfl, rfl, show (12 : Int) ≠ 0 by decide⟩
  rw [if_neg hf]
  cases mapLoopL p b (hostsL (hoN b a) (hoN b (a + n - 1))) l with
  | none => exact .inl ⟨rfl, rfl, rfl, show (105 : Int) ≠ 0 by decide⟩
  | some l' => exact .inr ⟨hw, hf, l', rfl, rfl⟩
theorem hosts_bd {b a n : Int} (hb : BaseG b) (a0 : 0 ≤ a) (n0 : 0 < n) (h : a + n ≤ 1048576) : ∀ x ∈ hostsL (hoN b a) (hoN b (a + n - 1)), 0 ≤ x ∧ x < 1125899906842624 := fun x hx => by
  have h0 := hb.b0
  have h1 := hb.b1
  have h2 := hostsL_mem.1 hx
  unfold hoN at h2
  omega
theorem FitG.mapped {l : List SM} {m : List SC} {b : Int} {p : List SP} (h : FitG l m b p) {a n q : Int} (a0 : 0 ≤ a) (n0 : 0 ≤ n) (hw : ¬ wrongG a n q = true) (hf : ¬ 256 - ((delS p a n).length : Int) < n) {l' : List SM}
    (e : mapLoopL p b (hostsL (hoN b a) (hoN b (a + n - 1))) l = some l') : FitG l' (clearS m (b + a * 4096) (n * 4096)) b (insG (delS p a n) a n q) := by
  have hn := wrongG_no n0 hw
  have h0 := h.base.b0
  have h2 := h.base.b2
  obtain ⟨hF, hm, hnew⟩ := mapLoopL_spec _ h.h (hosts_bd h.base a0 hn.1 hn.2.1) e
  -- a page that was there is there, or one with its number is new
  have hold : ∀ x ∈ p, ∃ x' ∈ insG (delS p a n) a n q, x'.f0 = x.f0 := fun x hx => by
    by_cases hin : a ≤ x.f0 ∧ x.f0 - a < n
    · exact ⟨⟨a + ((x.f0 - a).toNat : Int), q⟩, (insG_mem a0 n0 hn.2.1).2 (.inr ⟨(x.f0 - a).toNat, by omega, rfl⟩), by show a + ((x.f0 - a).toNat : Int) = x.f0; omega⟩
    exact ⟨x, (insG_mem a0 n0 hn.2.1).2 (.inl ((delS_mem h.pages a0).2 ⟨hx, hin⟩)), rfl⟩
  refine ⟨hF.clear (by omega) (by omega), h.base, insG_P h.pages a0 hn hf, fun x hx => ?_, fun y hy ha hc => ?_, fun c hc ha hd => ?_⟩
  · rcases (insG_mem a0 n0 hn.2.1).1 hx with hx | ⟨i, hi, rfl⟩
    · obtain ⟨y, hy, e⟩ := has_mem.1 (h.pm x ((delS_mem h.pages a0).1 hx).1)
      exact has_mem.2 ⟨y, (hm y).2 (.inl hy), e⟩
    · show has mpK (hoN b (a + (i : Int))) l' = true
      cases hu : usedN p b (hoN b (a + (i : Int))) with
      | true =>
        obtain ⟨x, hx, e⟩ := usedN_iff.1 hu
        obtain ⟨y, hy, e2⟩ := has_mem.1 (h.pm x hx)
        exact has_mem.2 ⟨y, (hm y).2 (.inl hy), e2.trans e⟩
      | false => exact has_mem.2 ⟨⟨hoN b (a + (i : Int)), 3⟩, (hm _).2 (.inr ⟨_, hostsL_mem.2 (by unfold hoN; omega), hu, rfl⟩), rfl⟩
  · rcases (hm y).1 hy with hy | ⟨z, hz, hu, rfl⟩
    · obtain ⟨h3, x, hx, e⟩ := h.lm y hy ha hc
      obtain ⟨x', hx', e'⟩ := hold x hx
      exact ⟨h3, x', hx', by rw [e', e]⟩
    · have hz2 := hostsL_mem.1 hz
      refine ⟨rfl, ?_⟩
      have ha2 : b ≤ z * 16384 := ha
      show ∃ x ∈ insG (delS p a n) a n q, hoN b x.f0 = z
      by_cases hlow : 4 * (z - b / 16384) < a
      · exact ⟨⟨a + ((0 : Nat) : Int), q⟩, (insG_mem a0 n0 hn.2.1).2 (.inr ⟨0, by omega, rfl⟩), by show hoN b (a + ((0 : Nat) : Int)) = z; unfold hoN at hz2 ⊢; omega⟩
      refine ⟨⟨a + ((4 * (z - b / 16384) - a).toNat : Int), q⟩, (insG_mem a0 n0 hn.2.1).2 (.inr ⟨(4 * (z - b / 16384) - a).toNat, ?_, rfl⟩), ?_⟩
      · unfold hoN at hz2
        omega
      · show hoN b (a + ((4 * (z - b / 16384) - a).toNat : Int)) = z
        unfold hoN at hz2 ⊢
        omega
  · obtain ⟨c', hc', rfl, _⟩ := mem_clear hc
    obtain ⟨x, hx, e⟩ := h.cm c' hc' ha hd
    obtain ⟨x', hx', e'⟩ := hold x hx
    exact ⟨x', hx', by rw [e', e]; rfl⟩
theorem FitG.map {l : List SM} {m : List SC} {b : Int} {p : List SP} (h : FitG l m b p) {a n q : Int} (a0 : 0 ≤ a) (n0 : 0 ≤ n) : FitG (mapG l m b p a n q).1 (mapG l m b p a n q).2.1 b (mapG l m b p a n q).2.2.1 := by
  rcases mapG_cases l m b p a n q with ⟨e1, e2, e3, _⟩ | ⟨hw, hf, l', e, e1⟩
  · rw [e1, e2, e3]
    exact h
  · rw [e1]
    exact h.mapped a0 n0 hw hf e
end Go.Proofs.Ytgkjdpdmmlalcaa.F
end
section
namespace Go.Proofs.Ytgkjdpdmmlalcaa.F
open Go.RowKit Go.Shelf Go.Proofs.YtgkjdpdmmlalcaaW.PrintWords Go.Proofs.YtgkjdpdmmlalcaaW.PrintLast Go.Proofs.YtgkjdpdmmlalcaaW.PrintMore
set_option linter.unusedVariables false
set_option linter.unusedSimpArgs false
theorem FitG.wp {l : List SM} {m : List SC} {b : Int} {p : List SP} (h : FitG l m b p) : ∀ x ∈ p, wfP x := fun x hx => by
  have := h.pages.pp x hx
  exact ⟨⟨by omega, by omega⟩, by omega, by omega⟩
theorem FitG.gfitB {l : List SM} {m : List SC} {b : Int} {p : List SP} (h : FitG l m b p) : F.gfitB l m b p = true := (gfitB_iff h.h.wl h.h.wm h.base.b0 (by have := h.base.b1; omega) h.wp).2 h
theorem FitG.same {l : List SM} {m : List SC} {b : Int} {p : List SP} (h : FitG l m b p) (k : Nat) (hk : 200000 < k) : ferryref04_Same.f k l m b p l m b p = some true := by
  have h1 := h.h.ln
  have h2 := h.h.mn
  have h3 := h.pages.pn
  rw [ref04_Same l m b p l m b p (by omega) (by omega) (by omega) k (by omega), sameG_refl]
theorem protP_mem {p : List SP} (hr : Rises pgK p) {x : SP} (hx : x ∈ p) : protP p x.f0 = x.f1 := by
  unfold protP
  rw [has_mem.2 ⟨x, hx, rfl⟩, if_pos rfl]
  exact look_mem pgK (fun x => x.f1) hr hx
end Go.Proofs.Ytgkjdpdmmlalcaa.F
end
section
namespace Go.Proofs.Ytgkjdpdmmlalcaa.F
open Go.RowKit Go.Shelf Go.Proofs.YtgkjdpdmmlalcaaW.PrintWords Go.Proofs.YtgkjdpdmmlalcaaW.PrintLast Go.Proofs.YtgkjdpdmmlalcaaW.PrintMore
set_option linter.unusedVariables false
set_option linter.unusedSimpArgs false
def bysAt (m : List SC) (a n : Nat) : List UInt8 := (List.range n).map (fun i => UInt8.ofNat (pk m (a + i)))
theorem bysAt_add (m : List SC) (a n k : Nat) : bysAt m a (n + k) = bysAt m a n ++ bysAt m (a + n) k := by
  unfold bysAt
  rw [List.range_add, List.map_append, List.map_map]
  congr 1
  refine List.map_congr_left (fun i _ => ?_)
  show UInt8.ofNat (pk m (a + (n + i))) = UInt8.ofNat (pk m (a + n + i))
  rw [Nat.add_assoc]
theorem leBytes_leN (f : Nat → Nat) (n : Nat) (hf : ∀ i, i < n → f i < 256) : leBytes ((leN n f : Nat) : Int) n = (List.range n).map (fun i => UInt8.ofNat (f i)) := by
  unfold leBytes
  refine List.map_congr_left (fun i hi => ?_)
  have h := byteAt_leN n f hf i (List.mem_range.1 hi)
  unfold byteAt at h
  rw [← h]
  have e : ((leN n f : Nat) : Int) / 256 ^ i % 256 = ((leN n f / 256 ^ i % 256 : Nat) : Int) := by
    rw [Int.natCast_emod, Int.natCast_ediv, Int.natCast_pow]
    rfl
  rw [e, Int.toNat_natCast]
theorem le_val : ∀ s : List UInt8, ∃ v : Nat, beOf s.reverse = (v : Int) ∧ v < 256 ^ s.length ∧ ∀ j (h : j < s.length), byteAt v j = s[j].toNat
  | [] => ⟨0, rfl, by decide, fun j h => absurd h (by simp)⟩
  | x :: s => by
    obtain ⟨v, h1, h2, h3⟩ := le_val s
    have hx := x.toNat_lt
    refine ⟨v * 256 + x.toNat, ?_, ?_, ?_⟩
    · rw [List.reverse_cons, beOf_snoc, h1]
      omega
    · rw [List.length_cons, Nat.pow_succ]
      omega
    · intro j h
      cases j with
      | zero =>
        show (v * 256 + x.toNat) / 256 ^ 0 % 256 = x.toNat
        rw [Nat.pow_zero, Nat.div_one]
        omega
      | succ j =>
        have e := byteAt_succ (v * 256 + x.toNat) j
        rw [e, show (v * 256 + x.toNat) / 256 = v by omega]
        exact h3 j (by simpa using h)
theorem swap_Le_eq (s : ByteArray) (hs : s.size ≤ 8) : swap_Le.f s = some (beOf s.data.toList.reverse) := by
  unfold swap_Le.f swap_number.f
  rw [if_neg (by omega)]
  rfl
end Go.Proofs.Ytgkjdpdmmlalcaa.F
end
section
namespace Go.Proofs.Ytgkjdpdmmlalcaa.F
open Go.RowKit Go.Shelf Go.Proofs.YtgkjdpdmmlalcaaW.PrintWords Go.Proofs.YtgkjdpdmmlalcaaW.PrintLast Go.Proofs.YtgkjdpdmmlalcaaW.PrintMore
set_option linter.unusedVariables false
set_option linter.unusedSimpArgs false
theorem protP_range {p : List SP} (P : PagesG p) (n : Int) : protP p n = -1 ∨ (0 ≤ protP p n ∧ protP p n ≤ 7 ∧ ∃ y ∈ p, y.f0 = n) := by
  by_cases h : has pgK n p = true
  · obtain ⟨y, hy, e⟩ := has_mem.1 h
    have e2 : y.f0 = n := e
    have h1 := protP_mem P.pr hy
    have h2 := P.pp y hy
    rw [e2] at h1
    exact .inr ⟨by omega, by omega, y, hy, e2⟩
  left
  unfold protP
  rw [if_neg h]
theorem spanL_drop (a n : Int) (i : Nat) (h : i < n.toNat) : (spanL a n).drop i = (a + (i : Int)) :: (spanL a n).drop (i + 1) := by
  rw [List.drop_eq_getElem_cons (by rw [spanL_len]; exact h)]
  congr 1
  simp [spanL]
theorem firstS_f (l : List SM) (m : List SC) (b : Int) {p : List SP} (P : PagesG p) (hp : p.length ≤ 1000000) {a n need : Int} (a0 : 0 ≤ a) (a1 : a < 4294967296) (n0 : 0 ≤ n) (n1 : n < 4294967296) : gmem_first.f l m b p a n need = some (firstS p a n need) := by
  unfold gmem_first.f
  rw [if_pos (okSp_iff.2 ⟨P.pr, hp, a0, a1, n0, n1⟩)]
def Mapd (p : List SP) (x : Int) : Prop := x < 4294967296 ∧ ∃ y ∈ p, y.f0 = x / 4096
theorem mapd_of {p : List SP} (P : PagesG p) {need x : Int} (x0 : 0 ≤ x) (h : kindS p need x = 0) : Mapd p x := by
  unfold kindS at h
  split at h
  · rename_i h1
    rcases protP_range P (x / 4096 % 4294967296) with h2 | ⟨_, _, y, hy, e⟩
    · rw [if_pos (by omega)] at h
      cases h
    · exact ⟨h1, y, hy, by omega⟩
  · cases h
theorem firstS_zero {p : List SP} {a n need : Int} (h : (firstS p a n need).1 = 0) : firstS p a n need = (0, 0) ∧ ∀ x ∈ spanL a n, kindS p need x = 0 := by
  unfold firstS at h ⊢
  cases hf : (spanL a n).find? (fun x => decide (kindS p need x ≠ 0)) with
  | none =>
    rw [hf] at h
    refine ⟨rfl, fun x hx => ?_⟩
    have h2 := List.find?_eq_none.1 hf x hx
    exact Classical.byContradiction (fun h3 => h2 (decide_eq_true h3))
  | some x =>
    rw [hf] at h
    have h2 := List.find?_some hf
    exact absurd h (of_decide_eq_true h2)
theorem spanL_mem {a n x : Int} : x ∈ spanL a n ↔ a ≤ x ∧ x < a + n := by
  simp only [spanL, List.mem_map, List.mem_range]
  constructor
  · rintro ⟨i, hi, rfl⟩
    omega
  · intro h
    exact ⟨(x - a).toNat, by omega, by omega⟩
theorem FitG.host {l : List SM} {m : List SC} {b : Int} {p : List SP} (h : FitG l m b p) {x : Int} (x0 : 0 ≤ x) (hx : Mapd p x) : has mpK ((b + x) / 16384) l = true ∧ faultS l (b + x) 1 = 0 ∧ faultS l (b + x) 2 = 0 := by
  obtain ⟨_, y, hy, e⟩ := hx
  have h1 := h.pm y hy
  have h2 := h.prt hy
  have h3 := h.base.b2
  have e2 : hoN b y.f0 = (b + x) / 16384 := by
    unfold hoN
    omega
  rw [e2] at h1 h2
  refine ⟨h1, ?_, ?_⟩
  · unfold faultS
    rw [if_pos h1, h2]
    decide
  · unfold faultS
    rw [if_pos h1, h2]
    decide
end Go.Proofs.Ytgkjdpdmmlalcaa.F
end
section
namespace Go.Proofs.Ytgkjdpdmmlalcaa.F
open Go.RowKit Go.Shelf Go.Proofs.YtgkjdpdmmlalcaaW.PrintWords Go.Proofs.YtgkjdpdmmlalcaaW.PrintLast Go.Proofs.YtgkjdpdmmlalcaaW.PrintMore
set_option linter.unusedVariables false
set_option linter.unusedSimpArgs false
section
variable {l : List SM} {m : List SC} {b : Int} {p : List SP}
theorem FitG.load (h : FitG l m b p) {x : Int} {n : Nat} (x0 : 0 ≤ x) (n1 : 1 ≤ n) (n8 : n ≤ 8) (hx : ∀ j : Nat, j < n → Mapd p (x + (j : Int))) : loadS l m (b + x) (n : Int) = (((leN n (fun i => pk m ((b + x).toNat + i)) : Nat) : Int), 0, 0) := by
  have hb := h.base.b1
  have hb0 := h.base.b0
  have ha : askS l (b + x) 1 n 0 = (0, 0) := askS_all (by omega) (Int.le_refl 0) (fun j j0 j1 => by
    have h1 := hx j.toNat (by omega)
    have e : ((j.toNat : Nat) : Int) = j := by omega
    rw [e] at h1
    have h2 := (h.host (x := x + j) (by omega) h1).2.1
    have h3 := h1.1
    rw [← Int.add_assoc] at h2
    exact ⟨by omega, h2⟩)
  unfold loadS
  rw [if_neg (by omega), Int.toNat_natCast, ha, if_pos rfl]
theorem FitG.readGo (h : FitG l m b p) : ∀ (f n : Nat) (x : Int) (acc : List UInt8), 0 ≤ x → (∀ j : Nat, j < n → Mapd p (x + (j : Int))) → n < f → F.readGo l m f (b + x) n acc = some (acc ++ bysAt m (b + x).toNat n)
  | 0, n, x, acc, _, _, hf => absurd hf (by omega)
  | f + 1, n, x, acc, x0, hx, hf => by
    have hb := h.base.b1
    have hb0 := h.base.b0
    rw [F.readGo]
    by_cases h0 : 0 < n
    · have hz := (hx 0 h0).1
      have hlast := (hx (n - 1) (by omega)).1
      have hk : min n 8 ≤ 8 ∧ min n 8 ≤ n ∧ 1 ≤ min n 8 := by omega
      rw [if_pos h0, host_Load_spec l h.h.cells h.h.lr (Nat.le_trans h.h.ln (by decide)) (Nat.le_trans h.h.mn (by decide)) (by omega) (by omega) 60 (by decide), h.load x0 hk.2.2 hk.1 (fun j hj => hx j (by omega)), Option.bind_some]
      dsimp only
      have e : IntKind.u64.wrap (b + x + ((min n 8 : Nat) : Int)) = b + (x + ((min n 8 : Nat) : Int)) := by
        rw [u64w]
        omega
      rw [e, leBytes_leN _ _ (fun i _ => pk_lt _ _)]
      have hr := FitG.readGo h f (n - min n 8) (x + ((min n 8 : Nat) : Int)) (acc ++ bysAt m (b + x).toNat (min n 8)) (by omega) (fun j hj => by
        have h1 := hx (min n 8 + j) (by omega)
        rwa [Int.natCast_add, ← Int.add_assoc] at h1) (by omega)
      have e2 : (b + (x + ((min n 8 : Nat) : Int))).toNat = (b + x).toNat + min n 8 := by omega
      have e3 : bysAt m (b + x).toNat (min n 8) ++ bysAt m ((b + x).toNat + min n 8) (n - min n 8) = bysAt m (b + x).toNat n := by
        rw [← bysAt_add]
        congr 1
        omega
      rw [e2, List.append_assoc, e3] at hr
      exact hr
    have : n = 0 := by omega
    subst this
    rw [if_neg h0]
    simp [bysAt]
end
end Go.Proofs.Ytgkjdpdmmlalcaa.F
end
section
namespace Go.Proofs.Ytgkjdpdmmlalcaa.F
open Go.RowKit Go.Shelf Go.Proofs.YtgkjdpdmmlalcaaW.PrintWords Go.Proofs.YtgkjdpdmmlalcaaW.PrintLast Go.Proofs.YtgkjdpdmmlalcaaW.PrintMore
set_option linter.unusedVariables false
set_option linter.unusedSimpArgs false
section
variable {l : List SM} {m : List SC} {b : Int} {p : List SP}
theorem FitG.lenP (h : FitG l m b p) : p.length ≤ 1000000 := Nat.le_trans h.pages.pn (by decide)
theorem mapd_all {a n need : Int} (h : FitG l m b p) (a0 : 0 ≤ a) (hz : ∀ x ∈ spanL a n, kindS p need x = 0) : ∀ x ∈ spanL a n, Mapd p x := fun x hx => mapd_of h.pages (by have := spanL_mem.1 hx; omega) (hz x hx)
theorem FitG.rdB (h : FitG l m b p) {x : Int} (x0 : 0 ≤ x) (hx : Mapd p x) : F.rdB l m b x = UInt8.ofNat (pk m (b + x).toNat) := by
  have hb := h.base.b1
  have hb0 := h.base.b0
  have hx1 := hx.1
  have e : IntKind.u64.wrap (b + IntKind.u64.wrap x) = b + x := by
    rw [u64w, u64w]
    omega
  have h1 := h.load (n := 1) x0 (by decide) (by decide) (fun j hj => by
    have : j = 0 := by omega
    subst this
    rwa [Int.natCast_zero, Int.add_zero])
  unfold F.rdB
  rw [e, show ((1 : Nat) : Int) = 1 from rfl] at *
  rw [h1]
  have hp := pk_lt m (b + x).toNat
  have e2 : leN 1 (fun i => pk m ((b + x).toNat + i)) = pk m (b + x).toNat := by
    simp [leN]
  rw [e2]
  congr 1
  show (((pk m (b + x).toNat : Nat) : Int) / 1 % 256).toNat = _
  omega
theorem FitG.text_f (h : FitG l m b p) {a n : Int} (a0 : 0 ≤ a) (a1 : a < 4294967296) : gmem_Text.f l m b p a n = some (textGo l m b p (spanL a (textN n)) []) := by
  unfold gmem_Text.f
  rw [if_pos (okTx_ok h.h h.pages.pr h.lenP a0 a1)]
end
end Go.Proofs.Ytgkjdpdmmlalcaa.F
end
section
namespace Go.Proofs.Ytgkjdpdmmlalcaa.F
open Go.RowKit Go.Shelf Go.Proofs.YtgkjdpdmmlalcaaW.PrintWords Go.Proofs.YtgkjdpdmmlalcaaW.PrintLast Go.Proofs.YtgkjdpdmmlalcaaW.PrintMore
set_option linter.unusedVariables false
set_option linter.unusedSimpArgs false
theorem few05 {l : List SM} {m : List SC} {b : Int} {p : List SP} (wl : ∀ x ∈ l, wfM x) (wm : ∀ x ∈ m, wfC x) (b0 : 0 ≤ b) (b1 : b ≤ 18446744073709551615) (wp : ∀ x ∈ p, wfP x) (k : Nat) (hk : 1000 < k) :
    ∃ v, ferrylaw05_few.f k l m b p = some v ∧ (v = true → FitG l m b p ∧ l.length ≤ 70 ∧ m.length ≤ 100 ∧ p.length ≤ 60) := by
  unfold ferrylaw05_few.f
  by_cases h1 : (l.length : Int) ≤ 70
  · rw [if_pos h1]
    by_cases h2 : (m.length : Int) ≤ 100
    · rw [if_pos h2]
      by_cases h3 : (p.length : Int) ≤ 60
      · rw [if_pos h3, ref04_Fit wl wm b0 b1 wp (by omega) (by omega) k (by omega)]
        exact ⟨_, rfl, fun h => ⟨(gfitB_iff wl wm b0 b1 wp).1 h, by omega, by omega, by omega⟩⟩
      rw [if_neg h3]
      exact ⟨_, rfl, fun h => by cases h⟩
    rw [if_neg h2]
    exact ⟨_, rfl, fun h => by cases h⟩
  rw [if_neg h1]
  exact ⟨_, rfl, fun h => by cases h⟩
theorem awake05_60 : ferrylaw05_awake.f 60 = some true := by decide +kernel
theorem awake05 (k : Nat) (h : 60 ≤ k) : ferrylaw05_awake.f k = some true := le_mono (f := fun k => ferrylaw05_awake.f k) ferrylaw05_awake.mono h awake05_60
end Go.Proofs.Ytgkjdpdmmlalcaa.F
end
section
namespace Go.Proofs.Ytgkjdpdmmlalcaa.F
open Go.RowKit Go.Proofs.YtgkjdpdmmlalcaaW.PrintWords Go.Proofs.YtgkjdpdmmlalcaaW.PrintLast Go.Proofs.YtgkjdpdmmlalcaaW.PrintMore
attribute [local go_sem] max2_int min2_int max_two min_two max_three min_three max_four min_four
attribute [local go_sem] cell_twice
set_option linter.unusedVariables false
set_option linter.unusedSimpArgs false

def ferryref05_put.T9 : Bool × List (List Nat × List Nat) := (true, [([], []), ([0], [0]), ([], []), ([], []), ([], []), ([], []), ([4, 5], [4, 5]), ([6], [6]), ([1, 2, 3, 7, 7], [1, 2, 3, 7]), ([8], [8]), ([9], [9]), ([9], [9]), ([0, 1, 2, 3, 4, 5, 6, 7, 8, 9, 10], []), ([12, 10, 8, 0, 1, 2, 3, 4, 5, 6, 7, 8, 9, 10], [10, 12])])
def ferryref05_put.B9 : List Nat := [0, 1, 0, 0, 0, 0, 48, 112, 255, 511, 1023, 1023, 2047, 6143]
theorem ferryref05_put.tab9 : rtab .any (opsOf Try.f50 9) = ferryref05_put.T9 := by kernel_rfl
theorem ferryref05_put.bits9 : waitsOk ferryref05_put.T9.2 ferryref05_put.B9 = true := by kernel_rfl
end Go.Proofs.Ytgkjdpdmmlalcaa.F
end
section
namespace Go.Proofs.Ytgkjdpdmmlalcaa.F
open Go.RowKit Go.Shelf Go.Proofs.YtgkjdpdmmlalcaaW.PrintWords Go.Proofs.YtgkjdpdmmlalcaaW.PrintLast Go.Proofs.YtgkjdpdmmlalcaaW.PrintMore
set_option linter.unusedVariables false
set_option linter.unusedSimpArgs false
def pkL : List SC → Nat → List UInt8 → List SC
  | m, _, [] => m
  | m, a, x :: s => pkL (pokeN m a x.toNat) (a + 1) s
theorem pkL_app : ∀ (s t : List UInt8) (m : List SC) (a : Nat), pkL m a (s ++ t) = pkL (pkL m a s) (a + s.length) t
  | [], t, m, a => rfl
  | x :: s, t, m, a => by
    show pkL (pokeN m a x.toNat) (a + 1) (s ++ t) = _
    rw [pkL_app s t]
    show pkL (pkL (pokeN m a x.toNat) (a + 1) s) (a + 1 + s.length) t = pkL (pkL (pokeN m a x.toNat) (a + 1) s) (a + (s.length + 1)) t
    congr 1
    omega
theorem pkL_pokes : ∀ (s : List UInt8) (m : List SC) (a v : Nat), (∀ j (h : j < s.length), byteAt v j = s[j].toNat) → pokes m a v s.length = pkL m a s
  | [], m, a, v, _ => rfl
  | x :: s, m, a, v, h => by
    show pokes (pokeN m a (v % 256)) (a + 1) (v / 256) s.length = pkL (pokeN m a x.toNat) (a + 1) s
    have h0 : v % 256 = x.toNat := by
      have h1 := h 0 (by simp)
      unfold byteAt at h1
      simpa using h1
    rw [h0]
    refine pkL_pokes s _ _ _ (fun j hj => ?_)
    rw [← byteAt_succ]
    exact h (j + 1) (by simpa using hj)
theorem pkL_v (s : List UInt8) : ∃ v : Nat, (∀ j (h : j < s.length), byteAt v j = s[j].toNat) ∧ ∀ m a, pkL m a s = pokes m a v s.length := by
  obtain ⟨v, _, _, h⟩ := le_val s
  exact ⟨v, h, fun m a => (pkL_pokes s m a v h).symm⟩
theorem pkL_length (m : List SC) (a : Nat) (s : List UInt8) : (pkL m a s).length ≤ m.length + s.length := by
  obtain ⟨v, _, h⟩ := pkL_v s
  rw [h]
  exact pokes_length m a v
theorem CellsH.pkL {m : List SC} (h : CellsH m) {a : Nat} {s : List UInt8} (ha : a + s.length ≤ 18446744073709551616) : CellsH (F.pkL m a s) := by
  obtain ⟨v, _, e⟩ := pkL_v s
  rw [e]
  exact h.pokes ha
theorem pk_pkL {m : List SC} (h : CellsH m) {a : Nat} {s : List UInt8} (ha : a + s.length ≤ 18446744073709551616) (x : Nat) : pk (pkL m a s) x = if hx : a ≤ x ∧ x < a + s.length then (s[x - a]'(by omega)).toNat else pk m x := by
  obtain ⟨v, hv, e⟩ := pkL_v s
  rw [e, pk_pokes h ha]
  by_cases hx : a ≤ x ∧ x < a + s.length
  · rw [if_pos hx, dif_pos hx]
    exact hv _ (by omega)
  rw [if_neg hx, dif_neg hx]
theorem ext_take (x : ByteArray) (k : Nat) : (x.extract 0 k).data.toList = x.data.toList.take k := by
  rw [ByteArray.data_extract, Array.toList_extract]
  simp [List.extract]
theorem ext_drop (x : ByteArray) (k : Nat) : (x.extract k x.size).data.toList = x.data.toList.drop k := by
  rw [ByteArray.data_extract, Array.toList_extract]
  simp only [List.extract]
  apply List.take_of_length_le
  rw [List.length_drop]
  exact Nat.le_refl _
theorem put_wrap {A n : Nat} (h : A + n ≤ 9223372036854775808) : IntKind.u64.wrap ((A : Int) + (n : Int)) = ((A + n : Nat) : Int) := by
  rw [u64w]
  omega
theorem size_list (x : ByteArray) : x.size = x.data.toList.length := rfl
section
variable {l : List SM} {m : List SC} {b : Int} {p : List SP}
theorem step_store {A n : Nat} (hr : Rises mpK l) (hl : l.length ≤ 64) (hC : CellsH m) (hm : m.length ≤ 900000) (n1 : 1 ≤ n) (n8 : n ≤ 8) (hA : A + n ≤ 9223372036854775808) (hf : ∀ j : Nat, j < n → faultS l ((A : Int) + (j : Int)) 2 = 0) (s : List UInt8) (hs : s.length = n) :
    storeS l m (A : Int) (n : Int) (beOf s.reverse) = (l, pkL m A s, 0, 0) ∧ 0 ≤ beOf s.reverse ∧ beOf s.reverse < 18446744073709551616 := by
  obtain ⟨v, h1, h2, h3⟩ := le_val s
  have ha : askS l (A : Int) 2 n 0 = (0, 0) := askS_all (by omega) (Int.le_refl 0) (fun j j0 j1 => by
    have h4 := hf j.toNat (by omega)
    rw [show ((j.toNat : Nat) : Int) = j by omega] at h4
    exact ⟨by omega, h4⟩)
  have hv : v < 256 ^ 8 := Nat.lt_of_lt_of_le h2 (Nat.pow_le_pow_right (by decide) (by omega))
  rw [p256_8] at hv
  refine ⟨?_, by omega, by omega⟩
  unfold storeS
  rw [if_neg (by omega), Int.toNat_natCast, ha, if_pos rfl, h1, Int.toNat_natCast, Int.toNat_natCast, ← pkL_pokes s m A v h3, hs]
theorem put_l0 (hr : Rises mpK l) (hl : l.length ≤ 64) : ∀ (k : Nat) (x : ByteArray) (A : Nat) (m : List SC), CellsH m → m.length + x.size ≤ 900000 → A + x.size ≤ 9223372036854775808 → (∀ j : Nat, j < x.size → faultS l ((A : Int) + (j : Int)) 2 = 0) → x.size < k →
    gmem_put.l0 k x (A : Int) l m b p = some (l, pkL m A x.data.toList, b, p, 0, 0)
  | 0, x, A, m, _, _, _, _, hk => absurd hk (by omega)
  | k + 1, x, A, m, hC, hm, hA, hf, hk => by
    rw [gmem_put.l0]
    by_cases h0 : (x.size : Int) > 0
    · obtain ⟨n, hn⟩ : ∃ n, min x.size 8 = n := ⟨_, rfl⟩
      have hmn : mn (x.size : Int) 8 = (n : Int) := by
        unfold mn
        split <;> omega
      have ht : (x.extract 0 n).data.toList.length = n := by
        rw [ext_take, List.length_take, ← size_list]
        omega
      have hst := step_store (m := m) hr hl hC (by omega) (n := n) (A := A) (by omega) (by omega) (by omega) (fun j hj => hf j (by omega)) _ ht
      rw [if_pos h0, hmn, if_pos (by omega), if_pos (by omega), Int.toNat_natCast, swap_Le_eq _ (by rw [size_list, ht]; omega), Option.bind_some,
        host_Store_spec l hC hr (by omega) (by omega) (by omega) (by omega) hst.2.1 hst.2.2, hst.1, Option.bind_some]
      dsimp only
      have hw : IntKind.u64.wrap ((A : Int) + (n : Int)) = ((A + n : Nat) : Int) := put_wrap (by omega)
      have hd : (x.extract n x.size).size = x.size - n := by
        rw [size_list, ext_drop, List.length_drop, ← size_list]
      have hpl := pkL_length m A (x.extract 0 n).data.toList
      rw [ht] at hpl
      rw [hw, put_l0 hr hl k _ (A + n) _ (hC.pkL (by rw [ht]; omega)) (by rw [hd]; omega) (by rw [hd]; omega) (fun j hj => by
        rw [hd] at hj
        have h1 := hf (n + j) (by omega)
        rwa [show (A : Int) + ((n + j : Nat) : Int) = ((A + n : Nat) : Int) + (j : Int) by omega] at h1) (by rw [hd]; omega), ext_drop, ext_take]
      have e : pkL m A x.data.toList = pkL (pkL m A (x.data.toList.take n)) (A + n) (x.data.toList.drop n) := by
        conv => lhs; rw [← List.take_append_drop n x.data.toList]
        rw [pkL_app, List.length_take, ← size_list, show min n x.size = n by omega]
      rw [e]
    rw [if_neg h0]
    have e : x.data.toList = [] := List.eq_nil_of_length_eq_zero (by rw [← size_list]; omega)
    rw [e]
    rfl
def putG (m : List SC) (b : Int) (p : List SP) (a : Int) (s : ByteArray) (need : Int) : List SC × Int × Int := if (s.size : Int) > 65536 then (m, 1, 0) else if (firstS p a (s.size : Int) need).1 = 0 then (pkL m (b + a).toNat s.data.toList, 0, 0) else (m, (firstS p a (s.size : Int) need).1, (firstS p a (s.size : Int) need).2)
theorem putG_fault (h : FitG l m b p) {a : Int} {s : ByteArray} {need : Int} (a0 : 0 ≤ a) (hz : (firstS p a (s.size : Int) need).1 = 0) : ∀ j : Nat, j < s.size → Mapd p (a + (j : Int)) ∧ faultS l (((b + a).toNat : Int) + (j : Int)) 2 = 0 := fun j hj => by
  have hb0 := h.base.b0
  have h1 := mapd_all h a0 (firstS_zero hz).2 (a + (j : Int)) (spanL_mem.2 ⟨by omega, by omega⟩)
  have h2 := (h.host (by omega) h1).2.2
  rw [show (((b + a).toNat : Nat) : Int) + (j : Int) = b + (a + (j : Int)) by omega]
  exact ⟨h1, h2⟩
theorem FitG.put_f (h : FitG l m b p) {a need : Int} {s : ByteArray} (a0 : 0 ≤ a) (a1 : a < 4294967296) (hs : s.size ≤ 700000) (k : Nat) (hk : s.size < k) : gmem_put.f k l m b p a s need = some (l, (putG m b p a s need).1, b, p, (putG m b p a s need).2.1, (putG m b p a s need).2.2) := by
  have hb := h.base.b1
  have hb0 := h.base.b0
  have hmn := h.h.mn
  unfold gmem_put.f putG
  by_cases h1 : (s.size : Int) > 65536
  · rw [if_pos h1, if_pos h1]
  rw [if_neg h1, if_neg h1, firstS_f l m b h.pages h.lenP a0 a1 (by omega) (by omega), Option.bind_some]
  by_cases hz : (firstS p a (s.size : Int) need).1 = 0
  · have hp : guest_Place.f l m b p a = some (((b + a).toNat : Nat) : Int) := by
      unfold guest_Place.f
      rw [u64w, u64w]
      congr 1
      omega
    rw [if_pos hz, if_pos hz, hp, Option.bind_some, put_l0 h.h.lr h.h.ln k s _ m h.h.cells (by omega) (by omega) (fun j hj => (putG_fault h a0 hz j hj).2) hk]
  rw [if_neg hz, if_neg hz]
theorem FitG.pkL (h : FitG l m b p) {a : Int} {s : List UInt8} (a0 : 0 ≤ a) (hm : m.length + s.length ≤ 131072) (hx : ∀ j : Nat, j < s.length → Mapd p (a + (j : Int))) (ha : a + s.length ≤ 4294967296) : FitG l (F.pkL m (b + a).toNat s) b p := by
  have hb := h.base.b1
  have hb0 := h.base.b0
  have hb2 := h.base.b2
  obtain ⟨v, _, e⟩ := pkL_v s
  rw [e]
  refine ⟨h.h.pokes hm (by omega) (fun j hj => ?_), h.base, h.pages, h.pm, h.lm, fun c hc c0 c1 => ?_⟩
  · have h1 := (h.host (by omega) (hx j hj)).1
    rwa [show (((b + a).toNat + j : Nat) : Int) = b + (a + (j : Int)) by omega]
  · rcases mem_pokes h.h.cells (by omega) hc with h1 | ⟨j, hj, h1⟩
    · exact h.cm c h1 c0 c1
    · obtain ⟨_, y, hy, e2⟩ := hx j hj
      exact ⟨y, hy, by omega⟩
theorem FitG.putG (h : FitG l m b p) {a need : Int} {s : ByteArray} (a0 : 0 ≤ a) (a1 : a < 4294967296) (hm : m.length + s.size ≤ 131072) : FitG l (F.putG m b p a s need).1 b p := by
  unfold F.putG
  split
  · exact h
  · split
    · rename_i hz
      have h1 := putG_fault h a0 hz
      by_cases h0 : s.size = 0
      · have e : s.data.toList = [] := List.eq_nil_of_length_eq_zero h0
        rw [e]
        exact h
      have h2 := (h1 (s.size - 1) (by omega)).1.1
      exact h.pkL a0 hm (fun j hj => (h1 j hj).1) (by rw [← size_list]; omega)
    · exact h
end
end Go.Proofs.Ytgkjdpdmmlalcaa.F
end
section
namespace Go.Proofs.Ytgkjdpdmmlalcaa.F
open Go.RowKit Go.Proofs.YtgkjdpdmmlalcaaW.PrintWords Go.Proofs.YtgkjdpdmmlalcaaW.PrintLast Go.Proofs.YtgkjdpdmmlalcaaW.PrintMore
attribute [local go_sem] max2_int min2_int max_two min_two max_three min_three max_four min_four
attribute [local go_sem] cell_twice
set_option linter.unusedVariables false
set_option linter.unusedSimpArgs false

def ferryref05_Store.T3 : Bool × List (List Nat × List Nat) := (true, [([], []), ([], []), ([], []), ([], []), ([2, 3], [2, 3]), ([0, 1, 4, 4], [0, 1, 4]), ([5], [5]), ([5], [5]), ([6, 5, 0, 1, 2, 3, 4, 5, 6, 7], [6]), ([7, 8, 0, 1, 2, 3, 4, 5, 6, 7, 8], [7])])
def ferryref05_Store.B3 : List Nat := [0, 0, 0, 0, 12, 31, 63, 63, 255, 511]
theorem ferryref05_Store.tab3 : rtab .any (opsOf Try.f22 3) = ferryref05_Store.T3 := by kernel_rfl
theorem ferryref05_Store.bits3 : waitsOk ferryref05_Store.T3.2 ferryref05_Store.B3 = true := by kernel_rfl
end Go.Proofs.Ytgkjdpdmmlalcaa.F
end
section
namespace Go.Proofs.Ytgkjdpdmmlalcaa.F
open Go.RowKit Go.Shelf Go.Proofs.YtgkjdpdmmlalcaaW.PrintWords Go.Proofs.YtgkjdpdmmlalcaaW.PrintLast Go.Proofs.YtgkjdpdmmlalcaaW.PrintMore
set_option linter.unusedVariables false
set_option linter.unusedSimpArgs false
section
variable {l : List SM} {m : List SC} {b : Int} {p : List SP}
theorem FitG.Put_f (h : FitG l m b p) {a : Int} {s : ByteArray} (a0 : 0 ≤ a) (a1 : a < 4294967296) (hs : s.size ≤ 700000) (k : Nat) (hk : s.size < k) : gmem_Put.f k l m b p a s = some (l, (F.putG m b p a s 2).1, b, p, (F.putG m b p a s 2).2.1, (F.putG m b p a s 2).2.2) := by
  unfold gmem_Put.f
  rw [h.put_f a0 a1 hs k hk]
  rfl
end
end Go.Proofs.Ytgkjdpdmmlalcaa.F
end
section
namespace Go.Proofs.Ytgkjdpdmmlalcaa.F
open Go.RowKit Go.Shelf Go.Proofs.YtgkjdpdmmlalcaaW.PrintWords Go.Proofs.YtgkjdpdmmlalcaaW.PrintLast Go.Proofs.YtgkjdpdmmlalcaaW.PrintMore
set_option linter.unusedVariables false
section
variable {l : List SM} {m : List SC} {b : Int} {p : List SP}
theorem text_fault : ∀ (xs : List Int) (acc : List UInt8), (textGo l m b p xs acc).2.1 ≠ 0 → ∃ x ∈ xs, kindS p 1 x ≠ 0
  | [], acc, h => absurd rfl h
  | x :: xs, acc, h => by
    rw [textGo] at h
    by_cases c : kindS p 1 x ≠ 0
    · exact ⟨x, List.mem_cons_self .., c⟩
    rw [if_neg c] at h
    by_cases c2 : rdB l m b (x % 4294967296) = 0
    · rw [if_pos c2] at h
      exact absurd rfl h
    rw [if_neg c2] at h
    obtain ⟨y, hy, h2⟩ := text_fault xs _ h
    exact ⟨y, List.mem_cons_of_mem _ hy, h2⟩
theorem text_walk {a N : Int} {s : List UInt8} (hrd : ∀ j (hj : j < s.length), rdB l m b ((a + (j : Int)) % 4294967296) = s[j]) (hnz : ∀ j (hj : j < s.length), s[j] ≠ 0) (hN : s.length ≤ N.toNat) : ∀ d i : Nat, i + d = s.length → (textGo l m b p ((spanL a N).drop i) (s.take i)).2.1 = 0 →
    textGo l m b p ((spanL a N).drop i) (s.take i) = textGo l m b p ((spanL a N).drop s.length) s ∧ ∀ j : Nat, i ≤ j → j < s.length → kindS p 1 (a + (j : Int)) = 0
  | 0, i, hi, hz => by
    have e : i = s.length := by omega
    subst e
    rw [List.take_length]
    exact ⟨rfl, fun j h1 h2 => absurd h2 (Nat.not_lt.2 h1)⟩
  | d + 1, i, hi, hz => by
    have hlt : i < s.length := by omega
    have hlt2 : i < N.toNat := by omega
    rw [spanL_drop a N i hlt2, textGo] at hz ⊢
    by_cases c : kindS p 1 (a + (i : Int)) ≠ 0
    · rw [if_pos c] at hz
      exact absurd hz c
    rw [if_neg c, hrd i hlt, if_neg (hnz i hlt)] at hz ⊢
    have e : s.take i ++ [s[i]] = s.take (i + 1) := by
      rw [List.take_succ_eq_append_getElem hlt]
    rw [e] at hz ⊢
    obtain ⟨h1, h2⟩ := text_walk hrd hnz hN d (i + 1) (by omega) hz
    refine ⟨h1, fun j hj hj2 => ?_⟩
    by_cases ej : j = i
    · subst ej
      exact Classical.byContradiction c
    exact h2 j (by omega) hj2
theorem and_one {q : Int} (h0 : 0 ≤ q) (h7 : q ≤ 7) (h : Go.bits .and .i64 q 1 ≠ 1) : Go.bits .and .i64 q 1 = 0 := by
  have hq : q = 0 ∨ q = 1 ∨ q = 2 ∨ q = 3 ∨ q = 4 ∨ q = 5 ∨ q = 6 ∨ q = 7 := by omega
  rcases hq with rfl | rfl | rfl | rfl | rfl | rfl | rfl | rfl <;> first | decide | exact absurd (by decide) h
theorem kind_page (P : PagesG p) {x : Int} (hx : Mapd p x) (hk : kindS p 1 x ≠ 0) : Go.bits .and .i64 (protP p (x / 4096)) 1 = 0 := by
  obtain ⟨h1, y, hy, e⟩ := hx
  have hp := protP_mem P.pr hy
  have h2 := P.pp y hy
  have e2 : x / 4096 % 4294967296 = y.f0 := by omega
  unfold kindS at hk
  rw [if_pos h1, e2, hp, if_neg (by omega)] at hk
  rw [← e, hp]
  refine and_one (by omega) (by omega) (fun h3 => hk ?_)
  rw [if_pos h3]
theorem two_pages {a x n : Int} (h1 : a ≤ x) (h2 : x ≤ a + n) (hn : n ≤ 200) : x / 4096 = a / 4096 ∨ x / 4096 = (a + n) / 4096 := by omega
theorem textN_len {n : Int} (h0 : 0 ≤ n) (h1 : n ≤ 200) : ((textN n : Nat) : Int) = n + 1 := by
  unfold textN
  omega
theorem lst (x : ByteArray) : x.toList = x.data.toList := by rw [ByteArray.toList_eq]
theorem text_told {a : Int} {s : ByteArray} (h : FitG l m b p) (a0 : 0 ≤ a) (a1 : a < 4294967296) (hs : s.size ≤ 200) (hnz : (0 : UInt8) ∉ s.data.toList)
    (hM : ∀ x, x ∈ spanL a ((s.size : Int) + 1) → Mapd p x) (hrd : ∀ j (hj : j < (s.data.toList ++ [(0 : UInt8)]).length), rdB l m b ((a + (j : Int)) % 4294967296) = (s.data.toList ++ [(0 : UInt8)])[j]) (k : Nat) (hk : 400000 < k) :
    (∃ x, Mapd p x ∧ kindS p 1 x ≠ 0 ∧ a ≤ x ∧ x ≤ a + s.size ∧ (textGo l m b p (spanL a (textN (s.size : Int))) []).2.1 ≠ 0) ∨
    (textGo l m b p (spanL a (textN (s.size : Int))) [] = (s, 0, 0, 0) ∧ (0 < s.size → textGo l m b p (spanL a (textN ((s.size : Int) - 1))) [] = (⟨#[]⟩, 0, 0, 36))) := by
  have hl : s.size = s.data.toList.length := rfl
  have e1 := textN_len (n := (s.size : Int)) (by omega) (by omega)
  have hrd1 : ∀ j (hj : j < s.data.toList.length), rdB l m b ((a + (j : Int)) % 4294967296) = s.data.toList[j] := fun j hj => by
    have h1 := hrd j (by simp; omega)
    rwa [List.getElem_append_left hj] at h1
  have hnz1 : ∀ j (hj : j < s.data.toList.length), s.data.toList[j] ≠ 0 := fun j hj e => hnz (e ▸ List.getElem_mem hj)
  rw [e1]
  by_cases hz : (textGo l m b p (spanL a ((s.size : Int) + 1)) []).2.1 = 0
  · right
    have hw := text_walk (p := p) (a := a) (N := (s.size : Int) + 1) hrd1 hnz1 (by omega) s.data.toList.length 0 (Nat.zero_add _) hz
    rw [List.drop_zero, List.take_zero, ← hl, spanL_drop a _ s.size (by omega), textGo] at hw
    have hlast := hrd s.size (by rw [List.length_append]; exact Nat.lt_succ_self _)
    rw [List.getElem_append_right (by omega)] at hlast
    have hlast2 : rdB l m b ((a + (s.size : Int)) % 4294967296) = 0 := by
      rw [hlast]
      simp
    rw [hlast2, if_pos rfl] at hw
    have hk0 : ¬ kindS p 1 (a + (s.size : Int)) ≠ 0 := fun hc => by
      rw [if_pos hc] at hw
      have h2 := hw.1
      rw [h2] at hz
      exact hc hz
    rw [if_neg hk0] at hw
    refine ⟨hw.1, fun hpos => ?_⟩
    have e2 := textN_len (n := (s.size : Int) - 1) (by omega) (by omega)
    rw [e2, Int.sub_add_cancel]
    have hz2 : (textGo l m b p (spanL a (s.size : Int)) []).2.1 = 0 := Classical.byContradiction fun hc => by
      obtain ⟨x, hx, hkx⟩ := text_fault _ _ hc
      have hx2 := spanL_mem.1 hx
      have h3 := hw.2 (x - a).toNat (Nat.zero_le _) (by omega)
      rw [show a + (((x - a).toNat : Nat) : Int) = x by omega] at h3
      exact hkx h3
    have hw2 := text_walk (p := p) (a := a) (N := (s.size : Int)) hrd1 hnz1 (by omega) s.data.toList.length 0 (Nat.zero_add _) hz2
    rw [List.drop_zero, List.take_zero, List.drop_of_length_le (by rw [spanL_len]; omega)] at hw2
    exact hw2.1
  left
  obtain ⟨x, hx, hkx⟩ := text_fault _ _ hz
  have hx2 := spanL_mem.1 hx
  exact ⟨x, hM x hx, hkx, hx2.1, by omega, hz⟩
theorem texts_back {a : Int} {s : ByteArray} (h : FitG l m b p) (a0 : 0 ≤ a) (a1 : a < 4294967296) (hm : m.length ≤ 130000) (hs : s.size ≤ 200) (hnz : (0 : UInt8) ∉ s.data.toList) (k : Nat) (hk : 4000000 < k) :
    ferrylaw05_GmemTexts.j0 (k + 2) a s false l m b p = some true := by
  have hpn := h.pages.pn
  have ed : (s ++ (⟨#[0]⟩ : ByteArray)).data.toList = s.data.toList ++ [0] := by
    rw [ByteArray.data_append]
    simp
  have es : (s ++ (⟨#[0]⟩ : ByteArray)).size = s.size + 1 := by
    rw [ByteArray.size_append]
    rfl
  have f1 := h.putG (need := 2) (s := s ++ (⟨#[0]⟩ : ByteArray)) a0 a1 (by omega)
  rw [ferrylaw05_GmemTexts.j0, if_neg (by decide), if_pos (by omega), h.Put_f a0 a1 (by omega) (k + 1) (by omega), Option.bind_some]
  dsimp only
  by_cases hz : (firstS p a ((s ++ (⟨#[0]⟩ : ByteArray)).size : Int) 2).1 = 0
  · have hg : F.putG m b p a (s ++ (⟨#[0]⟩ : ByteArray)) 2 = (F.pkL m (b + a).toNat (s.data.toList ++ [0]), 0, 0) := by
      unfold F.putG
      rw [if_neg (by omega), if_pos hz, ed]
    have hM := mapd_all h a0 (firstS_zero hz).2
    rw [es, Int.natCast_add] at hM
    have hlast := hM (a + (s.size : Int)) (spanL_mem.2 ⟨by omega, by show _ < a + ((s.size : Int) + 1); omega⟩)
    have hend := hlast.1
    rw [hg] at f1 ⊢
    dsimp only at f1 ⊢
    have hb0 := h.base.b0
    have hb1 := h.base.b1
    have hrd : ∀ j (hj : j < (s.data.toList ++ [(0 : UInt8)]).length), rdB l (F.pkL m (b + a).toNat (s.data.toList ++ [0])) b ((a + (j : Int)) % 4294967296) = (s.data.toList ++ [(0 : UInt8)])[j] := fun j hj => by
      have hj2 : j < s.size + 1 := by
        rw [List.length_append] at hj
        exact hj
      have e : (a + (j : Int)) % 4294967296 = a + (j : Int) := by omega
      rw [e, f1.rdB (by omega) (hM _ (spanL_mem.2 ⟨by omega, by show _ < a + ((s.size : Int) + 1); omega⟩)), pk_pkL h.h.cells (by rw [List.length_append]; show _ + (s.size + 1) ≤ _; omega), dif_pos ⟨by omega, by rw [List.length_append]; show _ < _ + (s.size + 1); omega⟩]
      have e2 : (b + (a + (j : Int))).toNat - (b + a).toNat = j := by omega
      simp only [e2]
      exact UInt8.ofNat_toNat
    rw [if_pos rfl, f1.text_f a0 a1, Option.bind_some]
    rcases text_told f1 a0 a1 hs hnz hM hrd k (by omega) with ⟨x, hx, hkx, hx1, hx2, hne⟩ | ⟨ht, ht2⟩
    · have hpg := kind_page h.pages hx hkx
      have r1 := ref04_Prot l (F.pkL m (b + a).toNat (s.data.toList ++ [0])) b p h.lenP (a / 4096) (k + 1) (by omega)
      have r2 := ref04_Prot l (F.pkL m (b + a).toNat (s.data.toList ++ [0])) b p h.lenP ((a + (s.size : Int)) / 4096) (k + 1) (by omega)
      have e3 : Int.tdiv a 4096 % 4294967296 = a / 4096 := by
        rw [Int.tdiv_eq_ediv_of_nonneg a0]
        omega
      have e4 : (a + (s.size : Int) % 4294967296) % 4294967296 = a + (s.size : Int) := by omega
      rw [if_neg hne, e3, e4, r1, Option.bind_some, r2, Option.bind_some]
      rcases two_pages hx1 hx2 (by omega) with c | c
      · rw [c] at hpg
        rw [if_pos hpg]
      · rw [c] at hpg
        rw [hpg]
        by_cases c2 : Go.bits .and .i64 (protP p (a / 4096)) 1 = 0
        · rw [if_pos c2]
        rw [if_neg c2]
        rfl
    · have hw : wrap64 ((s.size : Int) - 1) = (s.size : Int) - 1 := by
        unfold wrap64
        omega
      have hbb : (s.toList != s.toList) = false := by simp
      rw [ht, if_pos rfl, if_pos rfl, hbb, ferrylaw05_GmemTexts.j1, if_neg (by decide), hw, f1.text_f a0 a1, Option.bind_some, awake05 k (by omega)]
      by_cases c : s.toList = ([] : List UInt8)
      · rw [if_pos c]
        rfl
      have hpos : 0 < s.size := by
        rw [lst] at c
        exact List.length_pos_iff.2 c
      rw [if_neg c, ht2 hpos, if_pos rfl, if_pos rfl]
      rfl
  have hg : F.putG m b p a (s ++ (⟨#[0]⟩ : ByteArray)) 2 = (m, (firstS p a ((s ++ (⟨#[0]⟩ : ByteArray)).size : Int) 2).1, (firstS p a ((s ++ (⟨#[0]⟩ : ByteArray)).size : Int) 2).2) := by
    unfold F.putG
    rw [if_neg (by omega), if_neg hz]
  rw [hg]
  dsimp only
  rw [if_neg hz, awake05 (k + 1) (by omega)]
  rfl
end
theorem GmemTexts_pure : ferrylaw05_GmemTexts.Pure := by
  intro l m b p a s wl wm hb wp ha hs
  obtain ⟨k, hk⟩ : ∃ k : Nat, 5000000 < k := ⟨5000001, by omega⟩
  refine ⟨k + 2, ?_⟩
  have aw : ferrylaw05_GmemTexts.j0 (k + 2) a s true l m b p = some true := by
    rw [ferrylaw05_GmemTexts.j0, if_pos rfl, awake05 (k + 1) (by omega)]
    rfl
  unfold ferrylaw05_GmemTexts.f
  obtain ⟨w, h1, h2⟩ := few05 wl.2 wm.2 hb.1 hb.2 wp.2 (k + 2) (by omega)
  rw [h1, Option.bind_some]
  cases w with
  | false =>
    rw [if_neg (by decide)]
    exact aw
  | true =>
    obtain ⟨h, _, hm, _⟩ := h2 rfl
    rw [if_pos rfl]
    by_cases h3 : (s.size : Int) > 200
    · rw [if_pos h3]
      exact aw
    have hc : strings_Contains.f s (⟨#[0]⟩ : ByteArray) = some (decide ((0 : UInt8) ∈ s.data.toList)) := rfl
    rw [if_neg h3, hc, Option.bind_some]
    by_cases c : (0 : UInt8) ∈ s.data.toList
    · rw [decide_eq_true c]
      exact aw
    rw [decide_eq_false c]
    exact texts_back h ha.1 (by omega) (by omega) (by omega) c k (by omega)
end Go.Proofs.Ytgkjdpdmmlalcaa.F
end
