import Derived.Test.YtjhfglpgpicmiaaVZF0
import Derived.Test.YtjhfglpgpicmiaaVA0
import Derived.Test.YtjhfglpgpicmiaaVA3
import Derived.Test.YtjhfglpgpicmiaaVA6HHost3
import Derived.Test.YtjhfglpgpicmiaaVA7
import Derived.Test.YtjhfglpgpicmiaaVA9
import Derived.Test.YtjhfglpgpicmiaaVA11
import Derived.Test.YtjhfglpgpicmiaaVA14
import Derived.Test.YtjhfglpgpicmiaaVA16
import Derived.Test.YtjhfglpgpicmiaaVA20PGuest1
import Derived.Test.YtjhfglpgpicmiaaVA21HGuest4
import Derived.Test.YtjhfglpgpicmiaaVA22
import Derived.Test.YtjhfglpgpicmiaaVA23HGuest7
import Derived.Test.YtjhfglpgpicmiaaVA27PGuest2
import Derived.Test.YtjhfglpgpicmiaaVA33PGuest3
section
namespace Go.Proofs.Ytjhfglpgpicmiaa.F
open Go.RowKit Go.Shelf Go.Proofs.YtjhfglpgpicmiaaW.PrintWords Go.Proofs.YtjhfglpgpicmiaaW.PrintLast Go.Proofs.YtjhfglpgpicmiaaW.PrintMore
set_option linter.unusedVariables false
set_option linter.unusedSimpArgs false
theorem mem_ins {α : Type} {l m : List α} {i : Nat} {x : α} : x ∈ l.take i ++ m ++ l.drop i ↔ x ∈ l ∨ x ∈ m := by
  have h : x ∈ l ↔ x ∈ l.take i ∨ x ∈ l.drop i := by
    rw [← List.mem_append, List.take_append_drop]
  rw [List.mem_append, List.mem_append, h]
  exact ⟨fun h => h.elim (fun h => h.elim (fun h => .inl (.inl h)) .inr) (fun h => .inl (.inr h)), fun h => h.elim (fun h => h.elim (fun h => .inl (.inl h)) .inr) (fun h => .inl (.inr h))⟩
theorem withB_one {x a : Int} (x0 : 0 ≤ x) (x1 : x ≤ 18446744073709551615) (a0 : 0 ≤ a) : withB x a 1 = decide (x = a) := by
  rw [withB_eq x0 x1 a0]
  by_cases h : x = a
  · rw [decide_eq_true h, decide_eq_true (by omega)]
  rw [decide_eq_false h, decide_eq_false (by omega)]
theorem mapS1_ok {l : List SM} {m m' : List SC} (hF : FitH l m') {a : Int} (a0 : 0 ≤ a) (a1 : a < 1125899906842624) (h : (mapS l m a 1 3).2.2 = 0) : (∀ y, y ∈ (mapS l m a 1 3).1 ↔ y ∈ l ∨ y = ⟨a, 3⟩) ∧ ∀ y ∈ l, y.f0 ≠ a := by
  unfold mapS at h ⊢
  have hw : wrongS a 1 3 = false := by unfold wrongS; exact decide_eq_false (by omega)
  rw [hw, if_neg (by decide)] at h ⊢
  cases hany : l.any (fun x => withB x.f0 a 1) with
  | true => rw [hany, if_pos rfl] at h; cases h
  | false =>
    rw [hany, if_neg (by decide)] at h
    rw [if_neg (by decide)]
    by_cases hf : (1 : Int) > 64 - (l.length : Int)
    · rw [if_pos hf] at h
      cases h
    rw [if_neg hf]
    refine ⟨fun y => ?_, fun y hy e => ?_⟩
    · dsimp only
      rw [mem_ins]
      have e : moreP a (1 : Int).toNat 3 = [⟨a, 3⟩] := by
        show [(⟨IntKind.u64.wrap (a + ((0 : Nat) : Int)), 3⟩ : SM)] = _
        rw [u64w, show (a + ((0 : Nat) : Int)) % 18446744073709551616 = a by omega]
      rw [e, List.mem_singleton]
    · have h1 := List.any_eq_false.1 hany y hy
      have h2 := hF.lp y hy
      rw [withB_one h2.1 (by omega) a0] at h1
      exact h1 (decide_eq_true e)
theorem mapLoopL_spec {p : List SP} {b : Int} {m : List SC} : ∀ (ps : List Int) {l l' : List SM}, FitH l m → (∀ h ∈ ps, 0 ≤ h ∧ h < 1125899906842624) → mapLoopL p b ps l = some l' →
    FitH l' m ∧ (∀ y, y ∈ l' ↔ y ∈ l ∨ ∃ h ∈ ps, usedN p b h = false ∧ y = ⟨h, 3⟩) ∧ ∀ h ∈ ps, usedN p b h = false → ∀ y ∈ l, y.f0 ≠ h
  | [], l, l', hF, _, e => by
    obtain rfl : l = l' := Option.some.inj e
    exact ⟨hF, fun y => ⟨.inl, fun h => h.elim id (fun ⟨h, hh, _⟩ => nomatch hh)⟩, fun h hh => nomatch hh⟩
  | a :: ps, l, l', hF, hr, e => by
    have ha := hr a (List.mem_cons_self ..)
    have hr2 : ∀ h ∈ ps, 0 ≤ h ∧ h < 1125899906842624 := fun h hh => hr h (List.mem_cons_of_mem _ hh)
    have e2 : (mapStepL p b l a).bind (mapLoopL p b ps) = some l' := e
    clear e
    unfold mapStepL at e2
    cases hu : usedN p b a with
    | true =>
      rw [hu, if_pos rfl, Option.bind_some] at e2
      obtain ⟨h1, h2, h3⟩ := mapLoopL_spec ps hF hr2 e2
      refine ⟨h1, fun y => ?_, fun x hx hy => ?_⟩
      · rw [h2]
        constructor
        · rintro (h | ⟨x, hx, hy⟩)
          · exact .inl h
          · exact .inr ⟨x, List.mem_cons_of_mem _ hx, hy⟩
        · rintro (h | ⟨x, hx, hy⟩)
          · exact .inl h
          · rcases List.mem_cons.1 hx with rfl | hx
            · rw [hu] at hy
              cases hy.1
            · exact .inr ⟨x, hx, hy⟩
      · rcases List.mem_cons.1 hx with rfl | hx
        · rw [hu] at hy
          cases hy
        · exact h3 x hx hy
    | false =>
      rw [hu, if_neg (by decide)] at e2
      by_cases hc : (mapS l [] a 1 3).2.2 = 0
      · rw [if_pos hc, Option.bind_some] at e2
        have hF2 := hF.map (n := 1) (p := 3) ha.1
        rw [mapS_cells l m] at hF2
        obtain ⟨h1, h2, h3⟩ := mapLoopL_spec ps hF2 hr2 e2
        obtain ⟨g1, g2⟩ := mapS1_ok hF ha.1 ha.2 hc
        refine ⟨h1, fun y => ?_, fun x hx hy => ?_⟩
        · rw [h2, g1]
          constructor
          · rintro ((h | h) | ⟨x, hx, hy⟩)
            · exact .inl h
            · exact .inr ⟨a, List.mem_cons_self .., hu, h⟩
            · exact .inr ⟨x, List.mem_cons_of_mem _ hx, hy⟩
          · rintro (h | ⟨x, hx, hy⟩)
            · exact .inl (.inl h)
            · rcases List.mem_cons.1 hx with rfl | hx
              · exact .inl (.inr hy.2)
              · exact .inr ⟨x, hx, hy⟩
        · rcases List.mem_cons.1 hx with rfl | hx
          · exact g2
          · exact fun y hy2 => h3 x hx hy y ((g1 y).2 (.inl hy2))
      rw [if_neg hc] at e2
      cases e2
theorem moreG_mem {a q : Int} {n : Nat} (a0 : 0 ≤ a) (h : a + (n : Int) ≤ 1048576) {x : SP} : x ∈ moreG a n q ↔ ∃ i : Nat, i < n ∧ x = ⟨a + (i : Int), q⟩ := by
  unfold moreG
  rw [List.mem_map]
  constructor
  · rintro ⟨i, hi, rfl⟩
    have hi2 := List.mem_range.1 hi
    exact ⟨i, hi2, by rw [show (a + (i : Int)) % 4294967296 = a + (i : Int) by omega]⟩
  · rintro ⟨i, hi, rfl⟩
    exact ⟨i, List.mem_range.2 hi, by rw [show (a + (i : Int)) % 4294967296 = a + (i : Int) by omega]⟩
theorem moreG_rises {a q : Int} (a0 : 0 ≤ a) : ∀ {n : Nat}, a + (n : Int) ≤ 1048576 → Rises pgK (moreG a n q)
  | 0, _ => trivial
  | n + 1, h => by
    rw [moreG_succ]
    refine rises_append pgK (moreG_rises a0 (by omega)) trivial (fun x hx y hy => ?_)
    obtain ⟨i, hi, rfl⟩ := (moreG_mem a0 (by omega)).1 hx
    rw [List.mem_singleton] at hy
    subst hy
    show a + (i : Int) < (a + (n : Int)) % 4294967296
    omega
theorem insG_mem {d : List SP} {a n q : Int} (a0 : 0 ≤ a) (n0 : 0 ≤ n) (h : a + n ≤ 1048576) {x : SP} : x ∈ insG d a n q ↔ x ∈ d ∨ ∃ i : Nat, (i : Int) < n ∧ x = ⟨a + (i : Int), q⟩ := by
  unfold insG
  rw [mem_ins, moreG_mem a0 (by omega)]
  exact ⟨fun h => h.imp_right (fun ⟨i, hi, e⟩ => ⟨i, by omega, e⟩), fun h => h.imp_right (fun ⟨i, hi, e⟩ => ⟨i, by omega, e⟩)⟩
theorem insG_P {p : List SP} (P : PagesG p) {a n q : Int} (a0 : 0 ≤ a) (hn : 0 < n ∧ a + n ≤ 1048576 ∧ 0 ≤ q ∧ q ≤ 7) (hf : ¬ 256 - ((delS p a n).length : Int) < n) : PagesG (insG (delS p a n) a n q) := by
  have D := delS_P P a n
  have hk : ∀ x ∈ delS p a n, x.f0 < a ∨ a + n ≤ x.f0 := fun x hx => by
    have := ((delS_mem P a0).1 hx).2
    omega
  generalize delS p a n = d at D hk hf ⊢
  have hd : ∀ y ∈ d.drop (lowB pgK a d), a + n ≤ y.f0 := fun y hy => by
    have h1 := drop_lowB pgK a D.pr y hy
    have h2 := hk y (List.mem_of_mem_drop hy)
    have h3 : pgK y = y.f0 := rfl
    omega
  refine ⟨?_, ?_, fun x hx => ?_⟩
  · have hL := lowB_le pgK a d
    unfold insG
    simp only [List.length_append, moreG_length, List.length_take, List.length_drop]
    omega
  · refine rises_append pgK (rises_append pgK (rises_left pgK (m := d.drop (lowB pgK a d)) (by rw [List.take_append_drop]; exact D.pr)) (moreG_rises a0 (by omega)) (fun x hx y hy => ?_)) (rises_right pgK (l := d.take (lowB pgK a d)) (by rw [List.take_append_drop]; exact D.pr)) (fun x hx y hy => ?_)
    · have h1 := take_lowB pgK a d x hx
      obtain ⟨i, hi, rfl⟩ := (moreG_mem a0 (by omega)).1 hy
      show pgK x < a + (i : Int)
      omega
    · have h1 := hd y hy
      have h3 : pgK y = y.f0 := rfl
      rcases List.mem_append.1 hx with hx | hx
      · have h2 := take_lowB pgK a d x hx
        omega
      · obtain ⟨i, hi, rfl⟩ := (moreG_mem a0 (by omega)).1 hx
        show a + (i : Int) < pgK y
        omega
  · rcases (insG_mem a0 (by omega) hn.2.1).1 hx with h | ⟨i, hi, rfl⟩
    · exact D.pp x h
    · refine ⟨?_, ?_, hn.2.2⟩
      · show 0 ≤ a + (i : Int)
        omega
      · show a + (i : Int) < 1048576
        omega
theorem mem_clear {m : List SC} {a n : Int} {c : SC} (h : c ∈ clearS m a n) : ∃ c' ∈ m, c = clrC a n c' ∧ c.f1 ≠ 0 := by
  unfold clearS at h
  obtain ⟨h1, h2⟩ := List.mem_filter.1 h
  obtain ⟨c', hc, rfl⟩ := List.mem_map.1 h1
  exact ⟨c', hc, rfl, by simpa using h2⟩
theorem mapG_cases (l : List SM) (m : List SC) (b : Int) (p : List SP) (a n q : Int) : ((mapG l m b p a n q).1 = l ∧ (mapG l m b p a n q).2.1 = m ∧ (mapG l m b p a n q).2.2.1 = p ∧ (mapG l m b p a n q).2.2.2 ≠ 0) ∨
    (¬ wrongG a n q = true ∧ ¬ 256 - ((delS p a n).length : Int) < n ∧ ∃ l', mapLoopL p b (hostsL (hoN b a) (hoN b (a + n - 1))) l = some l' ∧ mapG l m b p a n q = (l', clearS m (b + a * 4096) (n * 4096), insG (delS p a n) a n q, 0)) := by
  unfold mapG
  by_cases hw : wrongG a n q = true
  · rw [if_pos hw]
    exact .inl ⟨rfl, rfl, rfl, show (22 : Int) ≠ 0 by decide⟩
  rw [if_neg hw]
  by_cases hf : 256 - ((delS p a n).length : Int) < n
  · rw [if_pos hf]
    exact .inl ⟨rfl, rfl, rfl, show (12 : Int) ≠ 0 by decide⟩
  rw [if_neg hf]
  cases mapLoopL p b (hostsL (hoN b a) (hoN b (a + n - 1))) l with
  | none => exact .inl ⟨rfl, rfl, rfl, show (105 : Int) ≠ 0 by decide⟩
  | some l' => exact .inr ⟨hw, hf, l', rfl, rfl⟩
theorem hosts_bd {b a n : Int} (hb : BaseG b) (a0 : 0 ≤ a) (n0 : 0 < n) (h : a + n ≤ 1048576) : ∀ x ∈ hostsL (hoN b a) (hoN b (a + n - 1)), 0 ≤ x ∧ x < 1125899906842624 := fun x hx => by
  have h0 := hb.b0
  have h1 := hb.b1
  have h2 := hostsL_mem.1 hx
  unfold hoN at h2
  omega
theorem FitG.mapped {l : List SM} {m : List SC} {b : Int} {p : List SP} (h : FitG l m b p) {a n q : Int} (a0 : 0 ≤ a) (n0 : 0 ≤ n) (hw : ¬ wrongG a n q = true) (hf : ¬ 256 - ((delS p a n).length : Int) < n) {l' : List SM}
    (e : mapLoopL p b (hostsL (hoN b a) (hoN b (a + n - 1))) l = some l') : FitG l' (clearS m (b + a * 4096) (n * 4096)) b (insG (delS p a n) a n q) := by
  have hn := wrongG_no n0 hw
  have h0 := h.base.b0
  have h2 := h.base.b2
  obtain ⟨hF, hm, hnew⟩ := mapLoopL_spec _ h.h (hosts_bd h.base a0 hn.1 hn.2.1) e
  -- a page that was there is there, or one with its number is new
  have hold : ∀ x ∈ p, ∃ x' ∈ insG (delS p a n) a n q, x'.f0 = x.f0 := fun x hx => by
    by_cases hin : a ≤ x.f0 ∧ x.f0 - a < n
    · exact ⟨⟨a + ((x.f0 - a).toNat : Int), q⟩, (insG_mem a0 n0 hn.2.1).2 (.inr ⟨(x.f0 - a).toNat, by omega, rfl⟩), by show a + ((x.f0 - a).toNat : Int) = x.f0; omega⟩
    exact ⟨x, (insG_mem a0 n0 hn.2.1).2 (.inl ((delS_mem h.pages a0).2 ⟨hx, hin⟩)), rfl⟩
  refine ⟨hF.clear (by omega) (by omega), h.base, insG_P h.pages a0 hn hf, fun x hx => ?_, fun y hy ha hc => ?_, fun c hc ha hd => ?_⟩
  · rcases (insG_mem a0 n0 hn.2.1).1 hx with hx | ⟨i, hi, rfl⟩
    · obtain ⟨y, hy, e⟩ := has_mem.1 (h.pm x ((delS_mem h.pages a0).1 hx).1)
      exact has_mem.2 ⟨y, (hm y).2 (.inl hy), e⟩
    · show has mpK (hoN b (a + (i : Int))) l' = true
      cases hu : usedN p b (hoN b (a + (i : Int))) with
      | true =>
        obtain ⟨x, hx, e⟩ := usedN_iff.1 hu
        obtain ⟨y, hy, e2⟩ := has_mem.1 (h.pm x hx)
        exact has_mem.2 ⟨y, (hm y).2 (.inl hy), e2.trans e⟩
      | false => exact has_mem.2 ⟨⟨hoN b (a + (i : Int)), 3⟩, (hm _).2 (.inr ⟨_, hostsL_mem.2 (by unfold hoN; omega), hu, rfl⟩), rfl⟩
  · rcases (hm y).1 hy with hy | ⟨z, hz, hu, rfl⟩
    · obtain ⟨h3, x, hx, e⟩ := h.lm y hy ha hc
      obtain ⟨x', hx', e'⟩ := hold x hx
      exact ⟨h3, x', hx', by rw [e', e]⟩
    · have hz2 := hostsL_mem.1 hz
      refine ⟨rfl, ?_⟩
      have ha2 : b ≤ z * 16384 := ha
      show ∃ x ∈ insG (delS p a n) a n q, hoN b x.f0 = z
      by_cases hlow : 4 * (z - b / 16384) < a
      · exact ⟨⟨a + ((0 : Nat) : Int), q⟩, (insG_mem a0 n0 hn.2.1).2 (.inr ⟨0, by omega, rfl⟩), by show hoN b (a + ((0 : Nat) : Int)) = z; unfold hoN at hz2 ⊢; omega⟩
      refine ⟨⟨a + ((4 * (z - b / 16384) - a).toNat : Int), q⟩, (insG_mem a0 n0 hn.2.1).2 (.inr ⟨(4 * (z - b / 16384) - a).toNat, ?_, rfl⟩), ?_⟩
      · unfold hoN at hz2
        omega
      · show hoN b (a + ((4 * (z - b / 16384) - a).toNat : Int)) = z
        unfold hoN at hz2 ⊢
        omega
  · obtain ⟨c', hc', rfl, _⟩ := mem_clear hc
    obtain ⟨x, hx, e⟩ := h.cm c' hc' ha hd
    obtain ⟨x', hx', e'⟩ := hold x hx
    exact ⟨x', hx', by rw [e', e]; rfl⟩
theorem FitG.map {l : List SM} {m : List SC} {b : Int} {p : List SP} (h : FitG l m b p) {a n q : Int} (a0 : 0 ≤ a) (n0 : 0 ≤ n) : FitG (mapG l m b p a n q).1 (mapG l m b p a n q).2.1 b (mapG l m b p a n q).2.2.1 := by
  rcases mapG_cases l m b p a n q with ⟨e1, e2, e3, _⟩ | ⟨hw, hf, l', e, e1⟩
  · rw [e1, e2, e3]
    exact h
  · rw [e1]
    exact h.mapped a0 n0 hw hf e
theorem FitG.protect {l : List SM} {m : List SC} {b : Int} {p : List SP} (h : FitG l m b p) {a n q : Int} (n0 : 0 ≤ n) : FitG (protG l m b p a n q).1 (protG l m b p a n q).2.1 b (protG l m b p a n q).2.2.1 := by
  unfold protG
  by_cases hw : wrongG a n q = true
  · rw [if_pos hw]
    exact h
  rw [if_neg hw]
  have hn := wrongG_no n0 hw
  split
  · exact h
  have hk : ∀ x, (givG a n q x).f0 = x.f0 := fun x => givG_key a n q x
  have hold : ∀ x ∈ p, ∃ x' ∈ p.map (givG a n q), x'.f0 = x.f0 := fun x hx => ⟨_, List.mem_map.2 ⟨x, hx, rfl⟩, hk x⟩
  refine ⟨h.h, h.base, ⟨by rw [List.length_map]; exact h.pages.pn, rises_map pgK _ (givG_key a n q) h.pages.pr, fun x hx => ?_⟩, fun x hx => ?_, fun y hy ha hc => ?_, fun c hc ha hd => ?_⟩
  · obtain ⟨x, hx0, rfl⟩ := List.mem_map.1 hx
    have hp := h.pages.pp x hx0
    rw [hk]
    refine ⟨hp.1, hp.2.1, ?_⟩
    unfold givG
    split
    · exact hn.2.2
    · exact hp.2.2
  · obtain ⟨x, hx0, rfl⟩ := List.mem_map.1 hx
    rw [hk]
    exact h.pm x hx0
  · obtain ⟨h3, x, hx, e⟩ := h.lm y hy ha hc
    obtain ⟨x', hx', e'⟩ := hold x hx
    exact ⟨h3, x', hx', by rw [e', e]⟩
  · obtain ⟨x, hx, e⟩ := h.cm c hc ha hd
    obtain ⟨x', hx', e'⟩ := hold x hx
    exact ⟨x', hx', by rw [e', e]⟩
def goneN (p p2 : List SP) (b h : Int) : Bool := usedN p b h && !usedN p2 b h
theorem unfold_spec {p2 : List SP} {b : Int} (hb : BaseG b) : ∀ (p : List SP) {l : List SM} {m : List SC}, (∀ x ∈ p, 0 ≤ x.f0 ∧ x.f0 < 1048576) → (∀ y ∈ l, wfM y) → (∀ c ∈ m, wfC c) →
    p.foldl (unStepN p2 b) (l, m) = (l.filter (fun y => !goneN p p2 b y.f0), m.filter (fun c => !goneN p p2 b (c.f0 / 16384)))
  | [], l, m, _, _, _ => by
    have e1 : l.filter (fun y => !goneN [] p2 b y.f0) = l := List.filter_eq_self.2 (fun _ _ => rfl)
    have e2 : m.filter (fun c => !goneN [] p2 b (c.f0 / 16384)) = m := List.filter_eq_self.2 (fun _ _ => rfl)
    rw [e1, e2]
    rfl
  | x :: p, l, m, hp, wl, wm => by
    have hx := hp x (List.mem_cons_self ..)
    have hp2 : ∀ x ∈ p, 0 ≤ x.f0 ∧ x.f0 < 1048576 := fun y hy => hp y (List.mem_cons_of_mem _ hy)
    have h0 := hb.b0
    have h1 := hb.b1
    rw [List.foldl_cons]
    by_cases hu : usedN p2 b (hoN b x.f0) = true
    · have key : ∀ h, goneN (x :: p) p2 b h = goneN p p2 b h := fun h => by
        unfold goneN
        rw [usedN_cons]
        by_cases e : hoN b x.f0 = h
        · rw [← e, hu]
          simp
        rw [decide_eq_false e, Bool.false_or]
      have e : unStepN p2 b (l, m) x = (l, m) := by
        unfold unStepN
        rw [if_pos hu]
      rw [e, unfold_spec (p2 := p2) hb p hp2 wl wm]
      simp only [key]
    have hw : wrongS (hoN b x.f0) 1 0 = false := by unfold wrongS hoN; exact decide_eq_false (by omega)
    have hh : 0 ≤ hoN b x.f0 := by unfold hoN; omega
    have key : ∀ h, goneN (x :: p) p2 b h = (decide (h = hoN b x.f0) || goneN p p2 b h) := fun h => by
      unfold goneN
      rw [usedN_cons]
      by_cases e : hoN b x.f0 = h
      · rw [← e, Bool.eq_false_iff.2 hu]
        simp
      rw [decide_eq_false e, decide_eq_false (fun h9 => e h9.symm), Bool.false_or, Bool.false_or]
    have e : unStepN p2 b (l, m) x = (l.filter (fun y => !withB y.f0 (hoN b x.f0) 1), m.filter (fun c => !withB (c.f0 / 16384) (hoN b x.f0) 1)) := by
      unfold unStepN unmapS
      rw [if_neg hu, hw, if_neg (by decide)]
    rw [e, unfold_spec (p2 := p2) hb p (l := l.filter (fun y => !withB y.f0 (hoN b x.f0) 1)) (m := m.filter (fun c => !withB (c.f0 / 16384) (hoN b x.f0) 1)) hp2 (fun y hy => wl y (List.mem_filter.1 hy).1) (fun y hy => wm y (List.mem_filter.1 hy).1), List.filter_filter, List.filter_filter]
    simp only [key]
    congr 1
    · refine List.filter_congr (fun y hy => ?_)
      have hy2 : (0 ≤ y.f0 ∧ y.f0 ≤ 18446744073709551615) ∧ _ := wl y hy
      rw [withB_one hy2.1.1 hy2.1.2 hh, Bool.not_or, Bool.and_comm]
    · refine List.filter_congr (fun y hy => ?_)
      have hy2 : (0 ≤ y.f0 ∧ y.f0 ≤ 18446744073709551615) ∧ _ := wm y hy
      rw [withB_one (by omega) (by omega) hh, Bool.not_or, Bool.and_comm]
theorem clear_wm {l : List SM} {m : List SC} (h : FitH l m) {a n : Int} (a0 : 0 ≤ a) (n0 : 0 ≤ n) : ∀ c ∈ clearS m a n, wfC c := (h.clear a0 n0).wm
theorem unmapG_eq {l : List SM} {m : List SC} {b : Int} {p : List SP} (h : FitG l m b p) {a n : Int} (a0 : 0 ≤ a) (n0 : 0 ≤ n) : unmapG l m b p a n = if wrongG a n 0 = true then (l, m, p, 22)
    else (l.filter (fun y => !goneN p (delS p a n) b y.f0), (clearS m (b + a * 4096) (n * 4096)).filter (fun c => !goneN p (delS p a n) b (c.f0 / 16384)), delS p a n, 0) := by
  have h0 := h.base.b0
  unfold unmapG
  split
  · rfl
  · rw [unfold_spec h.base p (fun x hx => ⟨(h.pages.pp x hx).1, (h.pages.pp x hx).2.1⟩) h.h.wl (clear_wm h.h (by omega) (by omega))]
theorem clr_all {l : List SM} {m : List SC} (h : FitH l m) {a n : Int} (a0 : 0 ≤ a) (n0 : 0 ≤ n) {c : SC} (hc : c ∈ m) (h1 : a ≤ c.f0) (h2 : c.f0 + 8 ≤ a + n) : (clrC a n c).f1 = 0 := by
  have hm := h.mp c hc
  obtain ⟨y, hy⟩ : ∃ y : Nat, c.f0 = (y : Int) := ⟨c.f0.toNat, by omega⟩
  obtain ⟨v, hv⟩ : ∃ v : Nat, c.f1 = (v : Int) := ⟨c.f1.toNat, by omega⟩
  obtain ⟨a, rfl⟩ : ∃ z : Nat, a = (z : Int) := ⟨a.toNat, by omega⟩
  obtain ⟨n, rfl⟩ : ∃ z : Nat, n = (z : Int) := ⟨n.toNat, by omega⟩
  have h8 : c.f0 % 8 = 0 := hm.2.2.1
  obtain ⟨q, hq, he, hk⟩ := clrW_spec (y := y) (w := v) (by omega) (by rw [p256_8]; omega) a n 8 (Nat.le_refl _)
  have e : (clrC (a : Int) (n : Int) c).f1 = clrW (a : Int) (n : Int) c.f0 c.f1 8 := rfl
  rw [e, hy, hv, he]
  have : q = 0 := word_ext hq (by decide) (fun k hk8 => by
    rw [hk k hk8, if_pos (by omega)]
    unfold byteAt
    simp)
  rw [this]
  rfl
theorem FitG.unmap {l : List SM} {m : List SC} {b : Int} {p : List SP} (h : FitG l m b p) {a n : Int} (a0 : 0 ≤ a) (n0 : 0 ≤ n) : FitG (unmapG l m b p a n).1 (unmapG l m b p a n).2.1 b (unmapG l m b p a n).2.2.1 := by
  have h0 := h.base.b0
  have h2 := h.base.b2
  have hF : FitH (unmapG l m b p a n).1 (unmapG l m b p a n).2.1 := by
    unfold unmapG
    split
    · exact h.h
    · exact unfold_fit p (st := (l, clearS m (b + a * 4096) (n * 4096))) (h.h.clear (by omega) (by omega))
  rw [unmapG_eq h a0 n0] at hF ⊢
  by_cases hw : wrongG a n 0 = true
  · rw [if_pos hw]
    exact h
  rw [if_neg hw] at hF ⊢
  have hn := wrongG_no n0 hw
  refine ⟨hF, h.base, delS_P h.pages a n, fun x hx => ?_, fun y hy ha hc => ?_, fun c hc ha hd => ?_⟩
  · obtain ⟨y, hy, e⟩ := has_mem.1 (h.pm x ((delS_mem h.pages a0).1 hx).1)
    have hk : mpK y = y.f0 := rfl
    refine has_mem.2 ⟨y, List.mem_filter.2 ⟨hy, ?_⟩, e⟩
    unfold goneN
    rw [show usedN (delS p a n) b y.f0 = true from usedN_iff.2 ⟨x, hx, by rw [← hk, e]⟩]
    simp
  · obtain ⟨hy1, hy2⟩ := List.mem_filter.1 hy
    obtain ⟨h3, hx⟩ := h.lm y hy1 ha hc
    refine ⟨h3, usedN_iff.1 ?_⟩
    unfold goneN at hy2
    rw [usedN_iff.2 hx] at hy2
    simpa using hy2
  · obtain ⟨hc1, _⟩ := List.mem_filter.1 hc
    obtain ⟨c', hc', rfl, hnz⟩ := mem_clear hc1
    have ec : (clrC (b + a * 4096) (n * 4096) c').f0 = c'.f0 := rfl
    rw [ec] at ha hd ⊢
    obtain ⟨x, hx, e⟩ := h.cm c' hc' ha hd
    refine ⟨x, (delS_mem h.pages a0).2 ⟨hx, fun hin => hnz ?_⟩, e⟩
    have hm := h.h.mp c' hc'
    exact clr_all h.h (by omega) (by omega) hc' (by omega) (by omega)
end Go.Proofs.Ytjhfglpgpicmiaa.F
end
