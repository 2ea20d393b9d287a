import Derived.Test.YtgkjdpdmmlalcaaKZF0
import Derived.Test.YtgkjdpdmmlalcaaKA0
import Derived.Test.YtgkjdpdmmlalcaaKA2HHost0
import Derived.Test.YtgkjdpdmmlalcaaKA3
import Derived.Test.YtgkjdpdmmlalcaaKA5
import Derived.Test.YtgkjdpdmmlalcaaKA7
import Derived.Test.YtgkjdpdmmlalcaaKA8HHost6
import Derived.Test.YtgkjdpdmmlalcaaKA10PHost6
import Derived.Test.YtgkjdpdmmlalcaaKA16
import Derived.Test.YtgkjdpdmmlalcaaKA17FFerryref04Fit
import Derived.Test.YtgkjdpdmmlalcaaKA18
section
namespace Go.Proofs.Ytgkjdpdmmlalcaa.F
open Go.RowKit Go.Shelf Go.Proofs.YtgkjdpdmmlalcaaW.PrintWords Go.Proofs.YtgkjdpdmmlalcaaW.PrintLast Go.Proofs.YtgkjdpdmmlalcaaW.PrintMore
set_option linter.unusedVariables false
set_option linter.unusedSimpArgs false
def wrongG (a n q : Int) : Bool := decide (n = 0 ∨ a ≥ 1048576 ∨ n > 1048576 - a ∨ q < 0 ∨ q > 7)
theorem wrongG_no {a n q : Int} (n0 : 0 ≤ n) (h : ¬ wrongG a n q = true) : 0 < n ∧ a + n ≤ 1048576 ∧ 0 ≤ q ∧ q ≤ 7 := by
  unfold wrongG at h
  have h2 : ¬ (n = 0 ∨ a ≥ 1048576 ∨ n > 1048576 - a ∨ q < 0 ∨ q > 7) := fun e => h (decide_eq_true e)
  omega
theorem inP_eq {x : SP} {a n : Int} (x0 : 0 ≤ x.f0) (x1 : x.f0 < 4294967296) (a0 : 0 ≤ a) : inP x a n = decide (a ≤ x.f0 ∧ x.f0 - a < n) := by
  unfold inP
  rw [u32w]
  by_cases h : a ≤ x.f0
  · rw [decide_eq_true (show x.f0 ≥ a from h), Bool.true_and, show (x.f0 - a) % 4294967296 = x.f0 - a by omega]
    by_cases h2 : x.f0 - a < n
    · rw [decide_eq_true h2, decide_eq_true (show a ≤ x.f0 ∧ x.f0 - a < n from ⟨h, h2⟩)]
    rw [decide_eq_false h2, decide_eq_false (show ¬ (a ≤ x.f0 ∧ x.f0 - a < n) from fun e => h2 e.2)]
  rw [decide_eq_false (show ¬ x.f0 ≥ a from h), Bool.false_and, decide_eq_false (show ¬ (a ≤ x.f0 ∧ x.f0 - a < n) from fun e => h e.1)]
theorem moreG_length (a q : Int) (n : Nat) : (moreG a n q).length = n := by
  unfold moreG
  rw [List.length_map, List.length_range]
theorem moreG_succ (a q : Int) (n : Nat) : moreG a (n + 1) q = moreG a n q ++ [⟨(a + (n : Int)) % 4294967296, q⟩] := by
  unfold moreG
  rw [List.range_succ, List.map_append]
  rfl
def insG (l : List SP) (a n q : Int) : List SP := l.take (lowB pgK a l) ++ moreG a n.toNat q ++ l.drop (lowB pgK a l)
def mapStepL (p : List SP) (b : Int) (l : List SM) (a : Int) : Option (List SM) :=
  if usedN p b a = true then some l else if (mapS l [] a 1 3).2.2 = 0 then some (mapS l [] a 1 3).1 else none
def mapLoopL (p : List SP) (b : Int) : List Int → List SM → Option (List SM)
  | [], l => some l
  | a :: ps, l => (mapStepL p b l a).bind (mapLoopL p b ps)
theorem mapS_cells (l : List SM) (m : List SC) (a n q : Int) : mapS l m a n q = ((mapS l [] a n q).1, m, (mapS l [] a n q).2.2) := by
  unfold mapS
  repeat' split
  all_goals rfl
theorem hostsL_mem {lo hi x : Int} : x ∈ hostsL lo hi ↔ lo ≤ x ∧ x ≤ hi := by
  unfold hostsL
  rw [List.mem_map]
  constructor
  · rintro ⟨i, hi2, rfl⟩
    have := List.mem_range.1 hi2
    omega
  · rintro ⟨h1, h2⟩
    exact ⟨(x - lo).toNat, List.mem_range.2 (by omega), by omega⟩
def mapG (l : List SM) (m : List SC) (b : Int) (p : List SP) (a n q : Int) : List SM × List SC × List SP × Int :=
  if wrongG a n q = true then (l, m, p, 22)
  else if 256 - ((delS p a n).length : Int) < n then (l, m, p, 12)
  else match mapLoopL p b (hostsL (hoN b a) (hoN b (a + n - 1))) l with
    | none => (l, m, p, 105)
    | some l' => (l', clearS m (b + a * 4096) (n * 4096), insG (delS p a n) a n q, 0)
theorem delS_mem {p : List SP} (P : PagesG p) {a n : Int} (a0 : 0 ≤ a) {x : SP} : x ∈ delS p a n ↔ x ∈ p ∧ ¬ (a ≤ x.f0 ∧ x.f0 - a < n) := by
  unfold delS
  rw [List.mem_filter]
  constructor
  · rintro ⟨h1, h2⟩
    have h3 := P.pp x h1
    rw [inP_eq h3.1 (by omega) a0] at h2
    exact ⟨h1, fun e => by rw [decide_eq_true e] at h2; cases h2⟩
  · rintro ⟨h1, h2⟩
    have h3 := P.pp x h1
    refine ⟨h1, ?_⟩
    rw [inP_eq h3.1 (by omega) a0, decide_eq_false h2]
    rfl
theorem delS_P {p : List SP} (P : PagesG p) (a n : Int) : PagesG (delS p a n) :=
  ⟨Nat.le_trans (List.length_filter_le _ _) P.pn, rises_filter pgK _ P.pr, fun x hx => P.pp x (List.mem_filter.1 hx).1⟩
end Go.Proofs.Ytgkjdpdmmlalcaa.F
end
section
namespace Go.Proofs.Ytgkjdpdmmlalcaa.F
open Go.RowKit Go.Shelf Go.Proofs.YtgkjdpdmmlalcaaW.PrintWords Go.Proofs.YtgkjdpdmmlalcaaW.PrintLast Go.Proofs.YtgkjdpdmmlalcaaW.PrintMore
set_option linter.unusedVariables false
set_option linter.unusedSimpArgs false
structure UnI (okI : Nat → Prop) (w W : World) (gv : Array Value) (gw ND : Nat) (b : Int) (A3 : Option Addr) (c3 : Nat) (p2 : List SP) (st : List SM × List SC) : Prop where
  bel : Below w.heap.size w W
  c4 : W.heap[w.heap.size]? = some (.cells gv 29 (0, 0))
  c8 : W.heap[w.heap.size + 1]? = some (.cells #[.slice none 0 0, .slice none 0 0, .int .u64 0, .slice none 0 0] 29 (0, 0))
  cw : ∃ A0 c0 A1 c1, W.heap[gw]? = some (.cells #[.slice A0 st.1.length c0, .slice A1 st.2.length c1, .int .u64 b, .slice A3 p2.length c3] 135 (0, 0)) ∧ RowsH W (fun k => (okI k ∧ k < w.heap.size) ∨ gw + 1 ≤ k) A0 c0 A1 c1 st.1 st.2
  ow : OwnP W ND A3 c3 p2
  fit : FitH st.1 st.2
section
variable {okI : Nat → Prop} {w W W' : World} {gv : Array Value} {gw ND : Nat} {b : Int} {A3 : Option Addr} {c3 : Nat} {p2 : List SP} {st : List SM × List SC}
theorem UnI.below (h : UnI okI w W gv gw ND b A3 c3 p2 st) (hb : Below W.heap.size W W') : UnI okI w W' gv gw ND b A3 c3 p2 st := by
  obtain ⟨A0, c0, A1, c1, hc, hR⟩ := h.cw
  exact ⟨h.bel.trans (hb.mono h.bel.size), blk_below h.c4 hb, blk_below h.c8 hb, ⟨A0, c0, A1, c1, blk_below hc hb, hR.below hb⟩, h.ow.move (fun k _ hk => hb.block k hk), h.fit⟩
theorem UnI.put {A0 A1 : Option Addr} {c0 c1 : Nat} {x y : Value} {l' : List SM} {m' : List SC} (h : UnI okI w W gv gw ND b A3 c3 p2 st) (hz : w.heap.size + 1 < gw) (hN : gw < ND) (hc : W.heap[gw]? = some (.cells #[x, y, .int .u64 b, .slice A3 p2.length c3] 135 (0, 0)))
    (hR : RowsH W (fun k => (okI k ∧ k < w.heap.size) ∨ gw + 1 ≤ k) A0 c0 A1 c1 l' m') (hF : FitH l' m') : UnI okI w ((W.setCell ⟨gw, 0, none⟩ (.slice A0 l'.length c0)).setCell ⟨gw, 1, none⟩ (.slice A1 m'.length c1)) gv gw ND b A3 c3 p2 (l', m') :=
  ⟨(h.bel.setCell (p := ⟨gw, 0, none⟩) (by show w.heap.size ≤ gw; omega) _).setCell (p := ⟨gw, 1, none⟩) (by show w.heap.size ≤ gw; omega) _, blk_far2 h.c4 (by omega) _ _, blk_far2 h.c8 (by omega) _ _,
    ⟨A0, c0, A1, c1, blk_put (blk_put hc 0 _ rfl) 1 _ rfl, hR.move (fun k hk _ => (set_far (by omega)).trans (set_far (by omega)))⟩, h.ow.move (fun k hk _ => (set_far (by omega)).trans (set_far (by omega))), hF⟩
end
end Go.Proofs.Ytgkjdpdmmlalcaa.F
end
section
namespace Go.Proofs.Ytgkjdpdmmlalcaa.F
open Go.RowKit Go.Shelf Go.Proofs.YtgkjdpdmmlalcaaW.PrintWords Go.Proofs.YtgkjdpdmmlalcaaW.PrintLast Go.Proofs.YtgkjdpdmmlalcaaW.PrintMore
set_option linter.unusedVariables false
set_option linter.unusedSimpArgs false
theorem mem_ins {α : Type} {l m : List α} {i : Nat} {x : α} : x ∈ l.take i ++ m ++ l.drop i ↔ x ∈ l ∨ x ∈ m := by
  have h : x ∈ l ↔ x ∈ l.take i ∨ x ∈ l.drop i := by
    rw [← List.mem_append, List.take_append_drop]
  rw [List.mem_append, List.mem_append, h]
  exact ⟨fun h => h.elim (fun h => h.elim (fun h => .inl (.inl h)) .inr) (fun h => .inl (.inr h)), fun h => h.elim (fun h => h.elim (fun h => .inl (.inl h)) .inr) (fun h => .inl (.inr h))⟩
theorem withB_one {x a : Int} (x0 : 0 ≤ x) (x1 : x ≤ 18446744073709551615) (a0 : 0 ≤ a) : withB x a 1 = decide (x = a) := by
  rw [withB_eq x0 x1 a0]
  by_cases h : x = a
  · rw [decide_eq_true h, decide_eq_true (by omega)]
  rw [decide_eq_false h, decide_eq_false (by omega)]
theorem mapS1_ok {l : List SM} {m m' : List SC} (hF : FitH l m') {a : Int} (a0 : 0 ≤ a) (a1 : a < 1125899906842624) (h : (mapS l m a 1 3).2.2 = 0) : (∀ y, y ∈ (mapS l m a 1 3).1 ↔ y ∈ l ∨ y = ⟨a, 3⟩) ∧ ∀ y ∈ l, y.f0 ≠ a := by
  unfold mapS at h ⊢
  have hw : wrongS a 1 3 = false := by unfold wrongS; exact decide_eq_false (by omega)
  rw [hw, if_neg (by decide)] at h ⊢
  cases hany : l.any (fun x => withB x.f0 a 1) with
  | true => rw [hany, if_pos rfl] at h; cases h
  | false =>
    rw [hany, if_neg (by decide)] at h
    rw [if_neg (by decide)]
    by_cases hf : (1 : Int) > 64 - (l.length : Int)
    · rw [if_pos hf] at h
      cases h
    rw [if_neg hf]
    refine ⟨fun y => ?_, fun y hy e => ?_⟩
    · dsimp only
      rw [mem_ins]
      have e : moreP a (1 : Int).toNat 3 = [⟨a, 3⟩] := by
        show [(⟨IntKind.u64.wrap (a + ((0 : Nat) : Int)), 3⟩ : SM)] = _
        rw [u64w, show (a + ((0 : Nat) : Int)) % 18446744073709551616 = a by omega]
      rw [e, List.mem_singleton]
    · have h1 := List.any_eq_false.1 hany y hy
      have h2 := hF.lp y hy
      rw [withB_one h2.1 (by omega) a0] at h1
      exact h1 (decide_eq_true e)
theorem mapLoopL_spec {p : List SP} {b : Int} {m : List SC} : ∀ (ps : List Int) {l l' : List SM}, FitH l m → (∀ h ∈ ps, 0 ≤ h ∧ h < 1125899906842624) → mapLoopL p b ps l = some l' →
    FitH l' m ∧ (∀ y, y ∈ l' ↔ y ∈ l ∨ ∃ h ∈ ps, usedN p b h = false ∧ y = ⟨h, 3⟩) ∧ ∀ h ∈ ps, usedN p b h = false → ∀ y ∈ l, y.f0 ≠ h
  | [], l, l', hF, _, e => by
    obtain rfl : l = l' := Option.some.inj e
    exact ⟨hF, fun y => ⟨.inl, fun h => h.elim id (fun ⟨h, hh, _⟩ => nomatch hh)⟩, fun h hh => nomatch hh⟩
  | a :: ps, l, l', hF, hr, e => by
    have ha := hr a (List.mem_cons_self ..)
    have hr2 : ∀ h ∈ ps, 0 ≤ h ∧ h < 1125899906842624 := fun h hh => hr h (List.mem_cons_of_mem _ hh)
    have e2 : (mapStepL p b l a).bind (mapLoopL p b ps) = some l' := e
    clear e
    unfold mapStepL at e2
    cases hu : usedN p b a with
    | true =>
      rw [hu, if_pos rfl, Option.bind_some] at e2
      obtain ⟨h1, h2, h3⟩ := mapLoopL_spec ps hF hr2 e2
      refine ⟨h1, fun y => ?_, fun x hx hy => ?_⟩
      · rw [h2]
        constructor
        · rintro (h | ⟨x, hx, hy⟩)
          · exact .inl h
          · exact .inr ⟨x, List.mem_cons_of_mem _ hx, hy⟩
        · rintro (h | ⟨x, hx, hy⟩)
          · exact .inl h
          · rcases List.mem_cons.1 hx with rfl | hx
            · rw [hu] at hy
              cases hy.1
            · exact .inr ⟨x, hx, hy⟩
      · rcases List.mem_cons.1 hx with rfl | hx
        · rw [hu] at hy
          cases hy
        · exact h3 x hx hy
    | false =>
      rw [hu, if_neg (by decide)] at e2
      by_cases hc : (mapS l [] a 1 3).2.2 = 0
      · rw [if_pos hc, Option.bind_some] at e2
        have hF2 := hF.map (n := 1) (p := 3) ha.1
        rw [mapS_cells l m] at hF2
        obtain ⟨h1, h2, h3⟩ := mapLoopL_spec ps hF2 hr2 e2
        obtain ⟨g1, g2⟩ := mapS1_ok hF ha.1 ha.2 hc
        refine ⟨h1, fun y => ?_, fun x hx hy => ?_⟩
        · rw [h2, g1]
          constructor
          · rintro ((h | h) | ⟨x, hx, hy⟩)
            · exact .inl h
            · exact .inr ⟨a, List.mem_cons_self .., hu, h⟩
            · exact .inr ⟨x, List.mem_cons_of_mem _ hx, hy⟩
          · rintro (h | ⟨x, hx, hy⟩)
            · exact .inl (.inl h)
            · rcases List.mem_cons.1 hx with rfl | hx
              · exact .inl (.inr hy.2)
              · exact .inr ⟨x, hx, hy⟩
        · rcases List.mem_cons.1 hx with rfl | hx
          · exact g2
          · exact fun y hy2 => h3 x hx hy y ((g1 y).2 (.inl hy2))
      rw [if_neg hc] at e2
      cases e2
theorem moreG_mem {a q : Int} {n : Nat} (a0 : 0 ≤ a) (h : a + (n : Int) ≤ 1048576) {x : SP} : x ∈ moreG a n q ↔ ∃ i : Nat, i < n ∧ x = ⟨a + (i : Int), q⟩ := by
  unfold moreG
  rw [List.mem_map]
  constructor
  · rintro ⟨i, hi, rfl⟩
    have hi2 := List.mem_range.1 hi
    exact ⟨i, hi2, by rw [show (a + (i : Int)) % 4294967296 = a + (i : Int) by omega]⟩
  · rintro ⟨i, hi, rfl⟩
    exact ⟨i, List.mem_range.2 hi, by rw [show (a + (i : Int)) % 4294967296 = a + (i : Int) by omega]⟩
theorem moreG_rises {a q : Int} (a0 : 0 ≤ a) : ∀ {n : Nat}, a + (n : Int) ≤ 1048576 → Rises pgK (moreG a n q)
  | 0, _ => trivial
  | n + 1, h => by
    rw [moreG_succ]
    refine rises_append pgK (moreG_rises a0 (by omega)) trivial (fun x hx y hy => ?_)
    obtain ⟨i, hi, rfl⟩ := (moreG_mem a0 (by omega)).1 hx
    rw [List.mem_singleton] at hy
    subst hy
    show a + (i : Int) < (a + (n : Int)) % 4294967296
    omega
theorem insG_mem {d : List SP} {a n q : Int} (a0 : 0 ≤ a) (n0 : 0 ≤ n) (h : a + n ≤ 1048576) {x : SP} : x ∈ insG d a n q ↔ x ∈ d ∨ ∃ i : Nat, (i : Int) < n ∧ x = ⟨a + (i : Int), q⟩ := by
  unfold insG
  rw [mem_ins, moreG_mem a0 (by omega)]
  exact ⟨fun h => h.imp_right (fun ⟨i, hi, e⟩ => ⟨i, by omega, e⟩), fun h => h.imp_right (fun ⟨i, hi, e⟩ => ⟨i, by omega, e⟩)⟩
theorem insG_P {p : List SP} (P : PagesG p) {a n q : Int} (a0 : 0 ≤ a) (hn : 0 < n ∧ a + n ≤ 1048576 ∧ 0 ≤ q ∧ q ≤ 7) (hf : ¬ 256 - ((delS p a n).length : Int) < n) : PagesG (insG (delS p a n) a n q) := by
  have D := delS_P P a n
  have hk : ∀ x ∈ delS p a n, x.f0 < a ∨ a + n ≤ x.f0 := fun x hx => by
    have := ((delS_mem P a0).1 hx).2
    omega
  generalize delS p a n = d at D hk hf ⊢
  have hd : ∀ y ∈ d.drop (lowB pgK a d), a + n ≤ y.f0 := fun y hy => by
    have h1 := drop_lowB pgK a D.pr y hy
    have h2 := hk y (List.mem_of_mem_drop hy)
    have h3 : pgK y = y.f0 := rfl
    omega
  refine ⟨?_, ?_, fun x hx => ?_⟩
  · have hL := lowB_le pgK a d
    unfold insG
    simp only [List.length_append, moreG_length, List.length_take, List.length_drop]
    omega
  · refine rises_append pgK (rises_append pgK (rises_left pgK (m := d.drop (lowB pgK a d)) (by rw [List.take_append_drop]; exact D.pr)) (moreG_rises a0 (by omega)) (fun x hx y hy => ?_)) (rises_right pgK (l := d.take (lowB pgK a d)) (by rw [List.take_append_drop]; exact D.pr)) (fun x hx y hy => ?_)
    · have h1 := take_lowB pgK a d x hx
      obtain ⟨i, hi, rfl⟩ := (moreG_mem a0 (by omega)).1 hy
      show pgK x < a + (i : Int)
      omega
    · have h1 := hd y hy
      have h3 : pgK y = y.f0 := rfl
      rcases List.mem_append.1 hx with hx | hx
      · have h2 := take_lowB pgK a d x hx
        omega
      · obtain ⟨i, hi, rfl⟩ := (moreG_mem a0 (by omega)).1 hx
        show a + (i : Int) < pgK y
        omega
  · rcases (insG_mem a0 (by omega) hn.2.1).1 hx with h | ⟨i, hi, rfl⟩
    · exact D.pp x h
    · refine ⟨?_, ?_, hn.2.2⟩
      · show 0 ≤ a + (i : Int)
        omega
      · show a + (i : Int) < 1048576
        omega
theorem mem_clear {m : List SC} {a n : Int} {c : SC} (h : c ∈ clearS m a n) : ∃ c' ∈ m, c = clrC a n c' ∧ c.f1 ≠ 0 := by
  unfold clearS at h
  obtain ⟨h1, h2⟩ := List.mem_filter.1 h
  obtain ⟨c', hc, rfl⟩ := List.mem_map.1 h1
  exact ⟨c', hc, rfl, by simpa using h2⟩
theorem mapG_cases (l : List SM) (m : List SC) (b : Int) (p : List SP) (a n q : Int) : ((mapG l m b p a n q).1 = l ∧ (mapG l m b p a n q).2.1 = m ∧ (mapG l m b p a n q).2.2.1 = p ∧ (mapG l m b p a n q).2.2.2 ≠ 0) ∨
    (¬ wrongG a n q = true ∧ ¬ 256 - ((delS p a n).length : Int) < n ∧ ∃ l', mapLoopL p b (hostsL (hoN b a) (hoN b (a + n - 1))) l = some l' ∧ mapG l m b p a n q = (l', clearS m (b + a * 4096) (n * 4096), insG (delS p a n) a n q, 0)) := by
  unfold mapG
  by_cases hw : wrongG a n q = true
  · rw [if_pos hw]
    exact .inl ⟨rfl, rfl, rfl, show (22 : Int) ≠ 0 by decide⟩
  rw [if_neg hw]
  by_cases hf : 256 - ((delS p a n).length : Int) < n
  · rw [if_pos hf]
    exact .inl ⟨rfl, rfl, rfl, show (12 : Int) ≠ 0 by decide⟩
  rw [if_neg hf]
  cases mapLoopL p b (hostsL (hoN b a) (hoN b (a + n - 1))) l with
  | none => exact .inl ⟨rfl, rfl, rfl, show (105 : Int) ≠ 0 by decide⟩
  | some l' => exact .inr ⟨hw, hf, l', rfl, rfl⟩
theorem hosts_bd {b a n : Int} (hb : BaseG b) (a0 : 0 ≤ a) (n0 : 0 < n) (h : a + n ≤ 1048576) : ∀ x ∈ hostsL (hoN b a) (hoN b (a + n - 1)), 0 ≤ x ∧ x < 1125899906842624 := fun x hx => by
  have h0 := hb.b0
  have h1 := hb.b1
  have h2 := hostsL_mem.1 hx
  unfold hoN at h2
  omega
theorem FitG.mapped {l : List SM} {m : List SC} {b : Int} {p : List SP} (h : FitG l m b p) {a n q : Int} (a0 : 0 ≤ a) (n0 : 0 ≤ n) (hw : ¬ wrongG a n q = true) (hf : ¬ 256 - ((delS p a n).length : Int) < n) {l' : List SM}
    (e : mapLoopL p b (hostsL (hoN b a) (hoN b (a + n - 1))) l = some l') : FitG l' (clearS m (b + a * 4096) (n * 4096)) b (insG (delS p a n) a n q) := by
  have hn := wrongG_no n0 hw
  have h0 := h.base.b0
  have h2 := h.base.b2
  obtain ⟨hF, hm, hnew⟩ := mapLoopL_spec _ h.h (hosts_bd h.base a0 hn.1 hn.2.1) e
  -- a page that was there is there, or one with its number is new
  have hold : ∀ x ∈ p, ∃ x' ∈ insG (delS p a n) a n q, x'.f0 = x.f0 := fun x hx => by
    by_cases hin : a ≤ x.f0 ∧ x.f0 - a < n
    · exact ⟨⟨a + ((x.f0 - a).toNat : Int), q⟩, (insG_mem a0 n0 hn.2.1).2 (.inr ⟨(x.f0 - a).toNat, by omega, rfl⟩), by show a + ((x.f0 - a).toNat : Int) = x.f0; omega⟩
    exact ⟨x, (insG_mem a0 n0 hn.2.1).2 (.inl ((delS_mem h.pages a0).2 ⟨hx, hin⟩)), rfl⟩
  refine ⟨hF.clear (by omega) (by omega), h.base, insG_P h.pages a0 hn hf, fun x hx => ?_, fun y hy ha hc => ?_, fun c hc ha hd => ?_⟩
  · rcases (insG_mem a0 n0 hn.2.1).1 hx with hx | ⟨i, hi, rfl⟩
    · obtain ⟨y, hy, e⟩ := has_mem.1 (h.pm x ((delS_mem h.pages a0).1 hx).1)
      exact has_mem.2 ⟨y, (hm y).2 (.inl hy), e⟩
    · show has mpK (hoN b (a + (i : Int))) l' = true
      cases hu : usedN p b (hoN b (a + (i : Int))) with
      | true =>
        obtain ⟨x, hx, e⟩ := usedN_iff.1 hu
        obtain ⟨y, hy, e2⟩ := has_mem.1 (h.pm x hx)
        exact has_mem.2 ⟨y, (hm y).2 (.inl hy), e2.trans e⟩
      | false => exact has_mem.2 ⟨⟨hoN b (a + (i : Int)), 3⟩, (hm _).2 (.inr ⟨_, hostsL_mem.2 (by unfold hoN; omega), hu, rfl⟩), rfl⟩
  · rcases (hm y).1 hy with hy | ⟨z, hz, hu, rfl⟩
    · obtain ⟨h3, x, hx, e⟩ := h.lm y hy ha hc
      obtain ⟨x', hx', e'⟩ := hold x hx
      exact ⟨h3, x', hx', by rw [e', e]⟩
    · have hz2 := hostsL_mem.1 hz
      refine ⟨rfl, ?_⟩
      have ha2 : b ≤ z * 16384 := ha
      show ∃ x ∈ insG (delS p a n) a n q, hoN b x.f0 = z
      by_cases hlow : 4 * (z - b / 16384) < a
      · exact ⟨⟨a + ((0 : Nat) : Int), q⟩, (insG_mem a0 n0 hn.2.1).2 (.inr ⟨0, by omega, rfl⟩), by show hoN b (a + ((0 : Nat) : Int)) = z; unfold hoN at hz2 ⊢; omega⟩
      refine ⟨⟨a + ((4 * (z - b / 16384) - a).toNat : Int), q⟩, (insG_mem a0 n0 hn.2.1).2 (.inr ⟨(4 * (z - b / 16384) - a).toNat, ?_, rfl⟩), ?_⟩
      · unfold hoN at hz2
        omega
      · show hoN b (a + ((4 * (z - b / 16384) - a).toNat : Int)) = z
        unfold hoN at hz2 ⊢
        omega
  · obtain ⟨c', hc', rfl, _⟩ := mem_clear hc
    obtain ⟨x, hx, e⟩ := h.cm c' hc' ha hd
    obtain ⟨x', hx', e'⟩ := hold x hx
    exact ⟨x', hx', by rw [e', e]; rfl⟩
theorem FitG.map {l : List SM} {m : List SC} {b : Int} {p : List SP} (h : FitG l m b p) {a n q : Int} (a0 : 0 ≤ a) (n0 : 0 ≤ n) : FitG (mapG l m b p a n q).1 (mapG l m b p a n q).2.1 b (mapG l m b p a n q).2.2.1 := by
  rcases mapG_cases l m b p a n q with ⟨e1, e2, e3, _⟩ | ⟨hw, hf, l', e, e1⟩
  · rw [e1, e2, e3]
    exact h
  · rw [e1]
    exact h.mapped a0 n0 hw hf e
end Go.Proofs.Ytgkjdpdmmlalcaa.F
end
section
namespace Go.Proofs.Ytgkjdpdmmlalcaa.F
open Go.RowKit Go.Shelf Go.Proofs.YtgkjdpdmmlalcaaW.PrintWords Go.Proofs.YtgkjdpdmmlalcaaW.PrintLast Go.Proofs.YtgkjdpdmmlalcaaW.PrintMore
set_option linter.unusedVariables false
set_option linter.unusedSimpArgs false
theorem FitG.wp {l : List SM} {m : List SC} {b : Int} {p : List SP} (h : FitG l m b p) : ∀ x ∈ p, wfP x := fun x hx => by
  have := h.pages.pp x hx
  exact ⟨⟨by omega, by omega⟩, by omega, by omega⟩
theorem FitG.gfitB {l : List SM} {m : List SC} {b : Int} {p : List SP} (h : FitG l m b p) : F.gfitB l m b p = true := (gfitB_iff h.h.wl h.h.wm h.base.b0 (by have := h.base.b1; omega) h.wp).2 h
theorem FitG.same {l : List SM} {m : List SC} {b : Int} {p : List SP} (h : FitG l m b p) (k : Nat) (hk : 200000 < k) : ferryref04_Same.f k l m b p l m b p = some true := by
  have h1 := h.h.ln
  have h2 := h.h.mn
  have h3 := h.pages.pn
  rw [ref04_Same l m b p l m b p (by omega) (by omega) (by omega) k (by omega), sameG_refl]
theorem protP_mem {p : List SP} (hr : Rises pgK p) {x : SP} (hx : x ∈ p) : protP p x.f0 = x.f1 := by
  unfold protP
  rw [has_mem.2 ⟨x, hx, rfl⟩, if_pos rfl]
  exact look_mem pgK (fun x => x.f1) hr hx
end Go.Proofs.Ytgkjdpdmmlalcaa.F
end
section
namespace Go.Proofs.Ytgkjdpdmmlalcaa.F
open Go.RowKit Go.Shelf Go.Proofs.YtgkjdpdmmlalcaaW.PrintWords Go.Proofs.YtgkjdpdmmlalcaaW.PrintLast Go.Proofs.YtgkjdpdmmlalcaaW.PrintMore
set_option linter.unusedVariables false
section
variable {W : World} {v0 v1 v3 : Value} {l : List SM} {m : List SC} {b : Int} {p : List SP} {u0 u1 u3 : Value} {l' : List SM} {m' : List SC} {b' : Int} {p' : List SP}
theorem GuestV.below {W' : World} (h : GuestV W v0 v1 v3 l m p) (hb : Below W.heap.size W W') : GuestV W' v0 v1 v3 l m p := ⟨h.1.below hb, h.2.1.below hb, h.2.2.below hb⟩
theorem GuestV.host (h : GuestV W v0 v1 v3 l m p) : HostV W v0 v1 l m := ⟨h.1, h.2.1⟩
theorem FitG.len (h : FitG l m b p) : l.length ≤ 1000000 ∧ m.length ≤ 1000000 ∧ p.length ≤ 1000000 := by
  have h1 := h.h.ln
  have h2 := h.h.mn
  have h3 := h.pages.pn
  omega
theorem RetG.of {W w' : World} {l : List SM} {m : List SC} {b : Int} {p : List SP} {f : Value → Value} {v0 v1 v3 : Value} {B B' B3 e1 e2 e3 : Nat} {ok ok' ok3 : Nat → Prop} {e : Ending} (he : e = .returned (f (.agg #[v0, v1, .int .u64 b, v3]))) (h0 : Kd.V kM e1 w' B ok v0 l) (h1 : Kd.V kC e2 w' B' ok' v1 m) (h3 : Kd.V kP e3 w' B3 ok3 v3 p) (hb : Below W.heap.size W w') : RetG W l m b p f e w' := by
  obtain ⟨A, c, rfl, hc, hC⟩ := SlV.of_view h0
  obtain ⟨A', c', rfl, hc', hC'⟩ := SlV.of_view h1
  obtain ⟨A3, c3, rfl, hc3, hC3⟩ := SlV.of_view h3
  exact ⟨A, c, A', c', A3, c3, he, ⟨SlV.mk hC hc, SlV.mk hC' hc', SlV.mk hC3 hc3⟩, hb⟩
theorem rFit04_L (hG : GuestV W v0 v1 v3 l m p) (hl : l.length ≤ 1000000 ∧ m.length ≤ 1000000 ∧ p.length ≤ 1000000) (wl : ∀ x ∈ l, wfM x) (wm : ∀ x ∈ m, wfC x) (b0 : 0 ≤ b) (b1 : b ≤ 18446744073709551615) (wp : ∀ x ∈ p, wfP x) : Calls Try.prog 16 #[.agg #[v0, v1, .int .u64 b, v3]] W fun e w' => e = .returned (.bool (F.gfitB l m b p)) ∧ Below W.heap.size W w' := by
  obtain ⟨⟨A0, c0, rfl, h0, k0⟩, ⟨A1, c1, rfl, h1, k1⟩, ⟨A3, c3, rfl, h3, k3⟩⟩ := hG
  exact ferryref04_Fit.calls (3 * p.length + l.length + m.length + 6) A0 c0 l A1 c1 m b A3 c3 p _ W k0 h0 k1 h1 k3 h3 (ref04_Fit wl wm b0 b1 wp hl.1 hl.2.1 _ (by omega))
theorem rFit04T_L (hG : GuestV W v0 v1 v3 l m p) (hF : FitG l m b p) : Calls Try.prog 16 #[.agg #[v0, v1, .int .u64 b, v3]] W fun e w' => e = .returned (.bool true) ∧ Below W.heap.size W w' := by
  have := rFit04_L hG hF.len hF.h.wl hF.h.wm hF.base.b0 (by have := hF.base.b1; omega) hF.wp
  rwa [hF.gfitB] at this
theorem rSame04_L (hG : GuestV W v0 v1 v3 l m p) (hK : GuestV W u0 u1 u3 l' m' p') (hl : l.length ≤ 1000000 ∧ m.length ≤ 1000000 ∧ p.length ≤ 1000000) : Calls Try.prog 12 #[.agg #[v0, v1, .int .u64 b, v3], .agg #[u0, u1, .int .u64 b', u3]] W fun e w' => e = .returned (.bool (sameG l m b p l' m' b' p')) ∧ Below W.heap.size W w' := by
  obtain ⟨⟨A0, c0, rfl, h0, k0⟩, ⟨A1, c1, rfl, h1, k1⟩, ⟨A3, c3, rfl, h3, k3⟩⟩ := hG
  obtain ⟨⟨B0, d0, rfl, g0, j0⟩, ⟨B1, d1, rfl, g1, j1⟩, ⟨B3, d3, rfl, g3, j3⟩⟩ := hK
  exact ferryref04_Same.calls _ A0 c0 l A1 c1 m b A3 c3 p B0 d0 l' B1 d1 m' b' B3 d3 p' _ W k0 h0 k1 h1 k3 h3 j0 g0 j1 g1 j3 g3 (ref04_Same l m b p l' m' b' p' hl.1 hl.2.1 hl.2.2 (l.length + m.length + p.length + 4) (by omega))
theorem rSame04T_L (hG : GuestV W v0 v1 v3 l m p) (hK : GuestV W u0 u1 u3 l m p) (hl : l.length ≤ 1000000 ∧ m.length ≤ 1000000 ∧ p.length ≤ 1000000) : Calls Try.prog 12 #[.agg #[v0, v1, .int .u64 b, v3], .agg #[u0, u1, .int .u64 b, u3]] W fun e w' => e = .returned (.bool true) ∧ Below W.heap.size W w' := by
  have := rSame04_L (b := b) (b' := b) hG hK hl
  rwa [sameG_refl] at this
end
end Go.Proofs.Ytgkjdpdmmlalcaa.F
end
section
namespace Go.Proofs
open Go.Shelf Go.RowKit
def Try.lays167_ren : Go.Shelf.Ren := ⟨fun | 167 => 84 | 240 => 87 | 276 => 111 | n => n, fun | 0 => 0 | 4 => 4 | 5 => 5 | 9 => 9 | 20 => 20 | 37 => 93 | 70 => 92 | 72 => 95 | 75 => 101 | 80 => 99 | 164 => 156 | n => n, fun | n => n⟩
theorem Try.lays167 : Go.Proofs.Lays.n167 Try.prog Try.lays167_ren := {
  mixed := by kernel_rfl
  f167 := Try.func84.trans (congrArg some (by kernel_rfl))
  f240 := Try.func87.trans (congrArg some (by kernel_rfl))
  f276 := Try.func111.trans (congrArg some (by kernel_rfl))
  t0 := Try.underlying0
  a0 := Try.isAgg0
  z0 := Try.sizeOf0
  v0 := Try.zeroValue0
  t4 := Try.underlying4
  a4 := Try.isAgg4
  z4 := Try.sizeOf4
  v4 := Try.zeroValue4
  t5 := Try.underlying5
  a5 := Try.isAgg5
  z5 := Try.sizeOf5
  v5 := Try.zeroValue5
  t9 := Try.underlying9
  a9 := Try.isAgg9
  z9 := Try.sizeOf9
  v9 := Try.zeroValue9
  t20 := Try.underlying20
  a20 := Try.isAgg20
  z20 := Try.sizeOf20
  v20 := Try.zeroValue20
  t37 := Try.underlying93
  a37 := Try.isAgg93
  z37 := Try.sizeOf93
  v37 := Try.zeroValue93
  t70 := Try.underlying92
  a70 := Try.isAgg92
  z70 := Try.sizeOf92
  v70 := Try.zeroValue92
  t72 := Try.underlying95
  a72 := Try.isAgg95
  z72 := Try.sizeOf95
  v72 := Try.zeroValue95
  t75 := Try.underlying101
  a75 := Try.isAgg101
  z75 := Try.sizeOf101
  v75 := Try.zeroValue101
  t164 := Try.underlying156
  a164 := Try.isAgg156
  z164 := Try.sizeOf156
  v164 := Try.zeroValue156 }
theorem Try.lays167_X : Builder.Extra Try.prog Try.lays167_ren := {
  sizeBuilder := by kernel_rfl
  liesBuilder := by kernel_rfl
  t5 := Try.underlying5
  a5 := Try.isAgg5
  z5 := Try.sizeOf5
  v5 := Try.zeroValue5
  infoByte := by kernel_rfl
  cellsByte := by kernel_rfl
  sizeByte := by kernel_rfl
  neB5 := by decide }
theorem Try.Builder_WriteByte_k (B b : Nat) (bs : List Value) (c : Int) (w : World) (h : Lib.IsBuilderF 95 5 B b bs w) (hlen : bs.length + 1 ≤ 140737488355328) (hBw : B ≤ w.heap.size) :
    Calls Try.prog 84 #[.pointer (some ⟨b, 0, none⟩), .int .u8 c] w fun e w' => e = .returned .nilIface ∧ (Lib.BuilderAtF 95 5 B b (.pointer (some ⟨b, 0, none⟩)) (bs ++ [.int .u8 c]) w' ∧ Below B w w' ∧ Lib.OthersKept 5 (some b) w w') :=
  Any.Builder_WriteByte_k Try.lays167 Try.lays167_X B b bs c w h hlen hBw
def Try.lays166_ren : Go.Shelf.Ren := ⟨fun | 166 => 59 | 240 => 87 | 276 => 111 | n => n, fun | 0 => 0 | 3 => 3 | 4 => 4 | 9 => 9 | 20 => 20 | 37 => 93 | 70 => 92 | 72 => 95 | 75 => 101 | 80 => 99 | 164 => 156 | n => n, fun | n => n⟩
theorem Try.lays166 : Go.Proofs.Lays.n166 Try.prog Try.lays166_ren := {
  mixed := by kernel_rfl
  f166 := Try.func59.trans (congrArg some (by kernel_rfl))
  f240 := Try.func87.trans (congrArg some (by kernel_rfl))
  f276 := Try.func111.trans (congrArg some (by kernel_rfl))
  t0 := Try.underlying0
  a0 := Try.isAgg0
  z0 := Try.sizeOf0
  v0 := Try.zeroValue0
  t3 := Try.underlying3
  a3 := Try.isAgg3
  z3 := Try.sizeOf3
  v3 := Try.zeroValue3
  t4 := Try.underlying4
  a4 := Try.isAgg4
  z4 := Try.sizeOf4
  v4 := Try.zeroValue4
  t9 := Try.underlying9
  a9 := Try.isAgg9
  z9 := Try.sizeOf9
  v9 := Try.zeroValue9
  t20 := Try.underlying20
  a20 := Try.isAgg20
  z20 := Try.sizeOf20
  v20 := Try.zeroValue20
  t37 := Try.underlying93
  a37 := Try.isAgg93
  z37 := Try.sizeOf93
  v37 := Try.zeroValue93
  t70 := Try.underlying92
  a70 := Try.isAgg92
  z70 := Try.sizeOf92
  v70 := Try.zeroValue92
  t72 := Try.underlying95
  a72 := Try.isAgg95
  z72 := Try.sizeOf95
  v72 := Try.zeroValue95
  t75 := Try.underlying101
  a75 := Try.isAgg101
  z75 := Try.sizeOf101
  v75 := Try.zeroValue101
  t164 := Try.underlying156
  a164 := Try.isAgg156
  z164 := Try.sizeOf156
  v164 := Try.zeroValue156 }
theorem Try.lays166_X : Builder.Extra Try.prog Try.lays166_ren := {
  sizeBuilder := by kernel_rfl
  liesBuilder := by kernel_rfl
  t5 := Try.underlying5
  a5 := Try.isAgg5
  z5 := Try.sizeOf5
  v5 := Try.zeroValue5
  infoByte := by kernel_rfl
  cellsByte := by kernel_rfl
  sizeByte := by kernel_rfl
  neB5 := by decide }
theorem Try.Builder_WriteString_k (B b : Nat) (bs : List Value) (s : ByteArray) (w : World) (h : Lib.IsBuilderF 95 5 B b bs w) (hlen : bs.length + s.size ≤ 140737488355328) (hBw : B ≤ w.heap.size) :
    Calls Try.prog 59 #[.pointer (some ⟨b, 0, none⟩), .string s] w fun e w' => e = .returned (.tuple #[.int .i64 s.size, .nilIface]) ∧ (Lib.BuilderAtF 95 5 B b (.pointer (some ⟨b, 0, none⟩)) (bs ++ Lib.strCells s) w' ∧ Below B w w' ∧ Lib.OthersKept 5 (some b) w w') :=
  Any.Builder_WriteString_k Try.lays166 Try.lays166_X B b bs s w h hlen hBw
def Try.lays169_ren : Go.Shelf.Ren := ⟨fun | 169 => 58 | n => n, fun | 0 => 0 | 3 => 3 | 9 => 9 | 37 => 93 | 70 => 92 | 72 => 95 | 127 => 129 | n => n, fun | n => n⟩
theorem Try.lays169 : Go.Proofs.Lays.n169 Try.prog Try.lays169_ren := {
  mixed := by kernel_rfl
  f169 := Try.func58.trans (congrArg some (by kernel_rfl))
  t0 := Try.underlying0
  a0 := Try.isAgg0
  z0 := Try.sizeOf0
  v0 := Try.zeroValue0
  t3 := Try.underlying3
  a3 := Try.isAgg3
  z3 := Try.sizeOf3
  v3 := Try.zeroValue3
  t9 := Try.underlying9
  a9 := Try.isAgg9
  z9 := Try.sizeOf9
  v9 := Try.zeroValue9
  t37 := Try.underlying93
  a37 := Try.isAgg93
  z37 := Try.sizeOf93
  v37 := Try.zeroValue93
  t70 := Try.underlying92
  a70 := Try.isAgg92
  z70 := Try.sizeOf92
  v70 := Try.zeroValue92
  t72 := Try.underlying95
  a72 := Try.isAgg95
  z72 := Try.sizeOf95
  v72 := Try.zeroValue95
  t127 := Try.underlying129
  a127 := Try.isAgg129
  z127 := Try.sizeOf129
  v127 := Try.zeroValue129 }
theorem Try.lays169_X : Builder.Extra Try.prog Try.lays169_ren := {
  sizeBuilder := by kernel_rfl
  liesBuilder := by kernel_rfl
  t5 := Try.underlying5
  a5 := Try.isAgg5
  z5 := Try.sizeOf5
  v5 := Try.zeroValue5
  infoByte := by kernel_rfl
  cellsByte := by kernel_rfl
  sizeByte := by kernel_rfl
  neB5 := by decide }
theorem Try.Builder_String_any_k (B b : Nat) (l : List UInt8) (w : World) (h : Lib.IsBuilderF 95 5 B b (Lib.byteCells l) w) (hBw : B ≤ w.heap.size) :
    Calls Try.prog 58 #[.pointer (some ⟨b, 0, none⟩)] w fun e w' => e = .returned (.string ⟨l.toArray⟩) ∧ (Lib.IsBuilderF 95 5 B b (Lib.byteCells l) w' ∧ Below B w w' ∧ Lib.OthersKept 5 (some b) w w') :=
  Any.Builder_String_any_k Try.lays169 Try.lays169_X B b l w h hBw
end Go.Proofs
end
