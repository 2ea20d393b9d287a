import Derived.Test.YtjhfglpgpicmiaaVZF0
import Derived.Test.YtjhfglpgpicmiaaVA0
import Derived.Test.YtjhfglpgpicmiaaVA3
import Derived.Test.YtjhfglpgpicmiaaVA9
import Derived.Test.YtjhfglpgpicmiaaVA11
import Derived.Test.YtjhfglpgpicmiaaVA14
import Derived.Test.YtjhfglpgpicmiaaVA15FFerryref03Clear
import Derived.Test.YtjhfglpgpicmiaaVA16
import Derived.Test.YtjhfglpgpicmiaaVA20PGuest1
import Derived.Test.YtjhfglpgpicmiaaVA21HGuest4
import Derived.Test.YtjhfglpgpicmiaaVA22
import Derived.Test.YtjhfglpgpicmiaaVA23HGuest7
import Derived.Test.YtjhfglpgpicmiaaVA24
import Derived.Test.YtjhfglpgpicmiaaVA25FFerryref04With
import Derived.Test.YtjhfglpgpicmiaaVA26FFerryref04Map
section
namespace Go.Proofs.Ytjhfglpgpicmiaa.F
open Go.RowKit Go.Shelf Go.Proofs.YtjhfglpgpicmiaaW.PrintWords Go.Proofs.YtjhfglpgpicmiaaW.PrintLast Go.Proofs.YtjhfglpgpicmiaaW.PrintMore
set_option linter.unusedVariables false
set_option linter.unusedSimpArgs false
def wrongG (a n q : Int) : Bool := decide (n = 0 ∨ a ≥ 1048576 ∨ n > 1048576 - a ∨ q < 0 ∨ q > 7)
theorem wrongG_no {a n q : Int} (n0 : 0 ≤ n) (h : ¬ wrongG a n q = true) : 0 < n ∧ a + n ≤ 1048576 ∧ 0 ≤ q ∧ q ≤ 7 := by
  unfold wrongG at h
  have h2 : ¬ (n = 0 ∨ a ≥ 1048576 ∨ n > 1048576 - a ∨ q < 0 ∨ q > 7) := fun e => h (decide_eq_true e)
  omega
theorem gwrongS_eq {a n q : Int} (a0 : 0 ≤ a) (a1 : a < 4294967296) (n0 : 0 ≤ n) (n1 : n < 4294967296) (q0 : -9223372036854775808 ≤ q) (q1 : q ≤ 9223372036854775807) : gwrongS a n q = wrongG a n q := by
  unfold gwrongS guest_wrong.f wrongG
  by_cases h1 : n = 0
  · rw [if_pos h1, decide_eq_true (Or.inl h1)]
    rfl
  rw [if_neg h1]
  by_cases h2 : a > 1048576
  · rw [if_pos h2, decide_eq_true (Or.inr (Or.inl (by omega)))]
    rfl
  rw [if_neg h2]
  by_cases h3 : n > (1048576 - a) % 4294967296
  · rw [if_pos h3, decide_eq_true (Or.inr (Or.inr (Or.inl (by omega))))]
    rfl
  rw [if_neg h3, badProt_iff q0 q1]
  show (!decide (0 ≤ q ∧ q ≤ 7)) = _
  by_cases h4 : 0 ≤ q ∧ q ≤ 7
  · rw [decide_eq_true h4, decide_eq_false (by omega)]
    rfl
  rw [decide_eq_false h4, decide_eq_true (by omega)]
  rfl
theorem ref04_wrong {a n q : Int} (a0 : 0 ≤ a) (a1 : a < 4294967296) (n0 : 0 ≤ n) (n1 : n < 4294967296) : ferryref04_wrong.f a n q = some (wrongG a n q) := by
  unfold ferryref04_wrong.f wrongG
  by_cases h1 : n = 0
  · rw [if_pos h1, decide_eq_true (Or.inl h1)]
  rw [if_neg h1]
  by_cases h2 : a ≥ 1048576
  · rw [if_pos h2, decide_eq_true (Or.inr (Or.inl h2))]
  rw [if_neg h2]
  by_cases h3 : n > (1048576 - a) % 4294967296
  · rw [if_pos h3, decide_eq_true (Or.inr (Or.inr (Or.inl (by omega))))]
  rw [if_neg h3]
  by_cases h4 : q < 0
  · rw [if_pos h4, decide_eq_true (Or.inr (Or.inr (Or.inr (Or.inl h4))))]
  rw [if_neg h4]
  by_cases h5 : q > 7
  · rw [decide_eq_true h5, decide_eq_true (Or.inr (Or.inr (Or.inr (Or.inr h5))))]
  rw [decide_eq_false h5, decide_eq_false (by omega)]
theorem inP_eq {x : SP} {a n : Int} (x0 : 0 ≤ x.f0) (x1 : x.f0 < 4294967296) (a0 : 0 ≤ a) : inP x a n = decide (a ≤ x.f0 ∧ x.f0 - a < n) := by
  unfold inP
  rw [u32w]
  by_cases h : a ≤ x.f0
  · rw [decide_eq_true (show x.f0 ≥ a from h), Bool.true_and, show (x.f0 - a) % 4294967296 = x.f0 - a by omega]
    by_cases h2 : x.f0 - a < n
    · rw [decide_eq_true h2, decide_eq_true (show a ≤ x.f0 ∧ x.f0 - a < n from ⟨h, h2⟩)]
    rw [decide_eq_false h2, decide_eq_false (show ¬ (a ≤ x.f0 ∧ x.f0 - a < n) from fun e => h2 e.2)]
  rw [decide_eq_false (show ¬ x.f0 ≥ a from h), Bool.false_and, decide_eq_false (show ¬ (a ≤ x.f0 ∧ x.f0 - a < n) from fun e => h e.1)]
theorem pg_eta (x : SP) : (⟨x.f0, x.f1⟩ : SP) = x := rfl
theorem ref04_without_l0 (l : List SM) (m : List SC) (b : Int) (p : List SP) (hp : p.length ≤ 1000000) (a n : Int) : ∀ (k i : Nat) (o : List SP), i ≤ p.length → p.length - i < k → o.length ≤ i →
    ferryref04_without.l0 k a n o (i : Int) l m b p = some (o ++ (p.drop i).filter (fun x => !inP x a n))
  | 0, i, _, _, h, _ => by omega
  | k + 1, i, o, hi, h, ho => by
    unfold ferryref04_without.l0
    by_cases hlt : i < p.length
    · have hw : wrap64 ((i : Int) + 1) = ((i + 1 : Nat) : Int) := by unfold wrap64; omega
      rw [if_pos (by omega), if_pos (by omega), pg_getR hlt, hw, pg_eta, if_pos (show o.length < 8796093022208 by omega), List.drop_eq_getElem_cons hlt, List.filter_cons, ref04_without_l0 l m b p hp a n k (i + 1) o hlt (by omega) (by omega), ref04_without_l0 l m b p hp a n k (i + 1) _ hlt (by omega) (by simp; omega), List.append_assoc]
      unfold inP
      rw [u32w]
      by_cases h1 : p[i].f0 < a
      · rw [if_pos h1, decide_eq_false (show ¬ p[i].f0 ≥ a by omega)]
        rfl
      rw [if_neg h1, decide_eq_true (show p[i].f0 ≥ a by omega), Bool.true_and]
      by_cases h2 : (p[i].f0 - a) % 4294967296 ≥ n
      · rw [if_pos h2, decide_eq_false (by omega)]
        rfl
      rw [if_neg h2, decide_eq_true (by omega)]
      rfl
    rw [if_neg (by omega), List.drop_eq_nil_of_le (by omega)]
    simp
theorem ref04_without (l : List SM) (m : List SC) (b : Int) (p : List SP) (hp : p.length ≤ 1000000) (a n : Int) (k : Nat) (hk : p.length < k) : ferryref04_without.f k l m b p a n = some (delS p a n) := by
  have := ref04_without_l0 l m b p hp a n k 0 [] (Nat.zero_le _) (by omega) (by simp)
  rw [List.nil_append, List.drop_zero] at this
  exact this
theorem moreG_length (a q : Int) (n : Nat) : (moreG a n q).length = n := by
  unfold moreG
  rw [List.length_map, List.length_range]
theorem moreG_succ (a q : Int) (n : Nat) : moreG a (n + 1) q = moreG a n q ++ [⟨(a + (n : Int)) % 4294967296, q⟩] := by
  unfold moreG
  rw [List.range_succ, List.map_append]
  rfl
theorem ref04_with_l1 (l : List SP) (hl : l.length ≤ 1000000) {a q : Int} (N : Nat) (hN : N ≤ 1000000) (i : Nat) (o : List SP) (ho : o.length ≤ 1000000) : ∀ (d k j : Nat), j + d = N →
    ferryref04_with.l1 (k + d + 1) l a (N : Int) q (o ++ moreG a j q) (i : Int) (j : Int) = if i < l.length then ferryref04_with.l0 k l a (N : Int) q (o ++ moreG a N q ++ (l.drop i).take 1) true ((i + 1 : Nat) : Int) else ferryref04_with.l0 k l a (N : Int) q (o ++ moreG a N q) true (wrap64 ((i : Int) + 1))
  | 0, k, j, hj => by
    obtain rfl : j = N := by omega
    unfold ferryref04_with.l1
    have hlen : (o ++ moreG a j q).length = o.length + j := by rw [List.length_append, moreG_length]
    rw [if_neg (by omega)]
    by_cases hi : i < l.length
    · have hw : wrap64 ((i : Int) + 1) = ((i + 1 : Nat) : Int) := by unfold wrap64; omega
      rw [if_pos (by omega), if_pos (by omega), if_pos (by omega), if_pos hi, pg_getR hi, hw, List.drop_eq_getElem_cons hi]
      rfl
    rw [if_neg (by omega), if_neg hi]
  | d + 1, k, j, hj => by
    have hlen : (o ++ moreG a j q).length = o.length + j := by rw [List.length_append, moreG_length]
    have hw : ((j : Int) + 1) % 4294967296 = ((j + 1 : Nat) : Int) := by omega
    rw [show k + (d + 1) + 1 = (k + d + 1) + 1 by omega]
    conv => lhs; unfold ferryref04_with.l1
    rw [if_pos (by omega), if_pos (by omega), hw, List.append_assoc, ← moreG_succ]
    exact ref04_with_l1 l hl N hN i o ho d k (j + 1) (by omega)
theorem ref04_with_true (l : List SP) (hl : l.length ≤ 1000000) {a n q : Int} : ∀ (k i : Nat) (o : List SP), i ≤ l.length → 2 * (l.length + 1 - i) < k → o.length ≤ 2000000 + i →
    ferryref04_with.l0 k l a n q o true (i : Int) = some (o ++ l.drop i)
  | 0, i, _, _, h, _ => by omega
  | 1, i, _, hi, h, _ => by omega
  | k + 2, i, o, hi, h, ho => by
    unfold ferryref04_with.l0
    rw [if_pos (by omega), if_pos rfl]
    unfold ferryref04_with.j1
    have hw : wrap64 ((i : Int) + 1) = ((i + 1 : Nat) : Int) := by unfold wrap64; omega
    rw [if_neg (show ¬ (false = true) by decide), hw]
    by_cases hlt : i < l.length
    · rw [if_pos (by omega), if_pos (by omega), if_pos (by omega), pg_getR hlt, ref04_with_true l hl k (i + 1) _ hlt (by omega) (by simp; omega), List.drop_eq_getElem_cons hlt, List.append_assoc]
      rfl
    rw [if_neg (by omega), List.drop_eq_nil_of_le (by omega), List.append_nil]
    obtain ⟨k, rfl⟩ : ∃ q, k = q + 1 := ⟨k - 1, by omega⟩
    unfold ferryref04_with.l0
    rw [if_neg (by omega)]
def insG (l : List SP) (a n q : Int) : List SP := l.take (lowB pgK a l) ++ moreG a n.toNat q ++ l.drop (lowB pgK a l)
theorem ref04_with_l0 (l : List SP) (hl : l.length ≤ 1000000) (hr : Rises pgK l) {a q : Int} (N : Nat) (hN : N ≤ 1000000) (hna : ∀ x ∈ l, x.f0 ≠ a) : ∀ (k i : Nat), i ≤ lowB pgK a l → 2 * (l.length + 1 - i) + N + 6 < k →
    ferryref04_with.l0 k l a (N : Int) q (l.take i) false (i : Int) = some (insG l a (N : Int) q)
  | 0, i, _, h => by omega
  | 1, i, hi, h => by omega
  | k + 2, i, hi, h => by
    have hL := lowB_le pgK a l
    have hlen : (l.take i).length ≤ i := List.length_take_le _ _
    have hw : wrap64 ((i : Int) + 1) = ((i + 1 : Nat) : Int) := by unfold wrap64; omega
    have INS : i = lowB pgK a l → ferryref04_with.l1 k l a (N : Int) q (l.take i) (i : Int) 0 = some (insG l a (N : Int) q) := by
      intro e
      unfold insG
      rw [Int.toNat_natCast]
      obtain ⟨z, rfl⟩ : ∃ z, k = z + N + 1 := ⟨k - N - 1, by omega⟩
      have h2 := ref04_with_l1 l hl (a := a) (q := q) N hN i (l.take i) (by omega) N z 0 (by omega)
      rw [show moreG a 0 q = [] from rfl, List.append_nil] at h2
      refine h2.trans ?_
      have hlen2 : (l.take i ++ moreG a N q).length ≤ i + N := by rw [List.length_append, moreG_length]; omega
      by_cases hlt : i < l.length
      · rw [if_pos hlt, ref04_with_true l hl z (i + 1) _ hlt (by omega) (by rw [List.length_append]; have : ((l.drop i).take 1).length ≤ 1 := List.length_take_le _ _; omega), e, List.append_assoc (_ ++ _)]
        congr 2
        rw [← e, List.drop_eq_getElem_cons hlt]
        rfl
      rw [if_neg hlt, hw]
      obtain ⟨z, rfl⟩ : ∃ y, z = y + 1 := ⟨z - 1, by omega⟩
      unfold ferryref04_with.l0
      rw [if_neg (by omega), ← e, List.drop_eq_nil_of_le (by omega), List.append_nil]
    unfold ferryref04_with.l0
    rw [if_pos (by omega), if_neg (show ¬ (false = true) by decide)]
    by_cases hle : i = l.length
    · rw [if_pos (by omega)]
      unfold ferryref04_with.j1
      rw [if_pos rfl]
      exact INS (by omega)
    have hlt : i < l.length := by omega
    rw [if_neg (by omega), if_pos (by omega), if_pos (by omega), pg_getR hlt]
    unfold ferryref04_with.j1
    by_cases hi2 : i = lowB pgK a l
    · have h1 := lowB_ge pgK a hr i hlt (by omega)
      have h2 := hna _ (List.getElem_mem hlt)
      have h3 : pgK l[i] = l[i].f0 := rfl
      rw [decide_eq_true (by omega), if_pos rfl]
      exact INS hi2
    have h1 := lowB_lt pgK a l i hlt (by omega)
    have h3 : pgK l[i] = l[i].f0 := rfl
    rw [decide_eq_false (by omega), if_neg (by decide), if_pos (by omega), if_pos (by omega), if_pos (by omega), hw, pg_getR hlt]
    have e : l.take i ++ [(⟨l[i].f0, l[i].f1⟩ : SP)] = l.take (i + 1) := by
      rw [List.take_succ_eq_append_getElem hlt]
    rw [e]
    exact ref04_with_l0 l hl hr N hN hna k (i + 1) (by omega) (by omega)
theorem ref04_with {l : List SP} (hl : l.length ≤ 1000000) (hr : Rises pgK l) {a n q : Int} (n0 : 0 ≤ n) (n1 : n ≤ 1000000) (hna : ∀ x ∈ l, x.f0 ≠ a) (k : Nat) (hk : 2 * l.length + n.toNat + 8 < k) : ferryref04_with.f k l a n q = some (insG l a n q) := by
  have := ref04_with_l0 l hl hr (q := q) n.toNat (by omega) hna k 0 (Nat.zero_le _) (by omega)
  rw [show ((n.toNat : Nat) : Int) = n by omega] at this
  exact this
def mapStepL (p : List SP) (b : Int) (l : List SM) (a : Int) : Option (List SM) :=
  if usedN p b a = true then some l else if (mapS l [] a 1 3).2.2 = 0 then some (mapS l [] a 1 3).1 else none
def mapLoopL (p : List SP) (b : Int) : List Int → List SM → Option (List SM)
  | [], l => some l
  | a :: ps, l => (mapStepL p b l a).bind (mapLoopL p b ps)
theorem mapS_cells (l : List SM) (m : List SC) (a n q : Int) : mapS l m a n q = ((mapS l [] a n q).1, m, (mapS l [] a n q).2.2) := by
  unfold mapS
  repeat' split
  all_goals rfl
theorem mapLoop_L (p : List SP) (b : Int) (m : List SC) : ∀ (ps : List Int) (l : List SM), (∀ a ∈ ps, usedS p b a = usedN p b a) → mapLoop p b ps (l, m) = (mapLoopL p b ps l).map (fun x => (x, m))
  | [], l, _ => rfl
  | a :: ps, l, h => by
    have e1 : mapLoop p b (a :: ps) (l, m) = (mapStep p b (l, m) a).bind (mapLoop p b ps) := rfl
    have e2 : mapLoopL p b (a :: ps) l = (mapStepL p b l a).bind (mapLoopL p b ps) := rfl
    rw [e1, e2]
    unfold mapStep mapStepL
    rw [h a (List.mem_cons_self ..), mapS_cells l m]
    dsimp only
    split
    · exact mapLoop_L p b m ps l (fun x hx => h x (List.mem_cons_of_mem _ hx))
    · split
      · exact mapLoop_L p b m ps _ (fun x hx => h x (List.mem_cons_of_mem _ hx))
      · rfl
theorem hostsL_nil {lo hi : Int} (h : hi < lo) : hostsL lo hi = [] := by
  unfold hostsL
  rw [show (hi + 1 - lo).toNat = 0 by omega]
  rfl
theorem hostsL_cons {lo hi : Int} (h : lo ≤ hi) : hostsL lo hi = lo :: hostsL (lo + 1) hi := by
  unfold hostsL
  obtain ⟨n, hn⟩ : ∃ n, (hi + 1 - lo).toNat = n + 1 := ⟨(hi - lo).toNat, by omega⟩
  rw [hn, show (hi + 1 - (lo + 1)).toNat = n by omega, List.range_succ_eq_map, List.map_cons, List.map_map]
  congr 1
  · omega
  · refine List.map_congr_left (fun i _ => ?_)
    show lo + ((i + 1 : Nat) : Int) = lo + 1 + (i : Int)
    omega
theorem hostsL_mem {lo hi x : Int} : x ∈ hostsL lo hi ↔ lo ≤ x ∧ x ≤ hi := by
  unfold hostsL
  rw [List.mem_map]
  constructor
  · rintro ⟨i, hi2, rfl⟩
    have := List.mem_range.1 hi2
    omega
  · rintro ⟨h1, h2⟩
    exact ⟨(x - lo).toNat, List.mem_range.2 (by omega), by omega⟩
def mapG (l : List SM) (m : List SC) (b : Int) (p : List SP) (a n q : Int) : List SM × List SC × List SP × Int :=
  if wrongG a n q = true then (l, m, p, 22)
  else if 256 - ((delS p a n).length : Int) < n then (l, m, p, 12)
  else match mapLoopL p b (hostsL (hoN b a) (hoN b (a + n - 1))) l with
    | none => (l, m, p, 105)
    | some l' => (l', clearS m (b + a * 4096) (n * 4096), insG (delS p a n) a n q, 0)
theorem dropC_eq {b a n : Int} (hb : BaseG b) (m : List SC) (a0 : 0 ≤ a) (n0 : 0 < n) (h : a + n ≤ 1048576) : dropC m b a n = clearS m (b + a * 4096) (n * 4096) := by
  have h0 := hb.b0
  have h1 := hb.b1
  unfold dropC
  rw [u32w, u64w (a * 4096 % _), u64w (b + _), u64w n, u64w (_ * 4096)]
  congr 1
  · omega
  · omega
theorem delS_mem {p : List SP} (P : PagesG p) {a n : Int} (a0 : 0 ≤ a) {x : SP} : x ∈ delS p a n ↔ x ∈ p ∧ ¬ (a ≤ x.f0 ∧ x.f0 - a < n) := by
  unfold delS
  rw [List.mem_filter]
  constructor
  · rintro ⟨h1, h2⟩
    have h3 := P.pp x h1
    rw [inP_eq h3.1 (by omega) a0] at h2
    exact ⟨h1, fun e => by rw [decide_eq_true e] at h2; cases h2⟩
  · rintro ⟨h1, h2⟩
    have h3 := P.pp x h1
    refine ⟨h1, ?_⟩
    rw [inP_eq h3.1 (by omega) a0, decide_eq_false h2]
    rfl
theorem delS_P {p : List SP} (P : PagesG p) (a n : Int) : PagesG (delS p a n) :=
  ⟨Nat.le_trans (List.length_filter_le _ _) P.pn, rises_filter pgK _ P.pr, fun x hx => P.pp x (List.mem_filter.1 hx).1⟩
theorem gMapS_eq {l : List SM} {m : List SC} {b : Int} {p : List SP} (hb : BaseG b) (P : PagesG p) {a n q : Int} (a0 : 0 ≤ a) (a1 : a < 4294967296) (n0 : 0 ≤ n) (n1 : n < 4294967296) (q0 : -9223372036854775808 ≤ q) (q1 : q ≤ 9223372036854775807) :
    gMapS l m b p a n q = mapG l m b p a n q := by
  have h0 := hb.b0
  have h2 := hb.b2
  unfold gMapS mapG
  rw [gwrongS_eq a0 a1 n0 n1 q0 q1]
  by_cases hw : wrongG a n q = true
  · rw [if_pos hw, if_pos hw]
  rw [if_neg hw, if_neg hw]
  have hn := wrongG_no n0 hw
  have hlen := (delS_P P a n).pn
  rw [show wrap64 (256 - ((delS p a n).length : Int)) % 4294967296 = 256 - ((delS p a n).length : Int) by unfold wrap64; omega]
  by_cases hf : 256 - ((delS p a n).length : Int) < n
  · rw [if_pos hf, if_pos hf]
  rw [if_neg hf, if_neg hf]
  have e1 : hiG b a n = hoN b (a + n - 1) := by
    unfold hiG
    rw [u32w (n - 1), u32w, show (a + (n - 1) % 4294967296) % 4294967296 = a + n - 1 by omega]
    exact hoS_eq hb (by omega) (by omega)
  rw [e1, hoS_eq hb a0 (by omega), dropC_eq hb m a0 hn.1 hn.2.1, mapLoop_L p b _ _ l (fun x hx => ?_)]
  · cases mapLoopL p b (hostsL (hoN b a) (hoN b (a + n - 1))) l <;> rfl
  · have hx2 := hostsL_mem.1 hx
    unfold hoN at hx2
    exact usedS_eq hb P.pr (fun x hx => ⟨(P.pp x hx).1, (P.pp x hx).2.1⟩) (by omega) (by omega)
theorem le_mono {α : Type} {f : Nat → Option α} (h : ∀ k, LeO (f k) (f (k + 1))) {k k' : Nat} (hk : k ≤ k') {r : α} (e : f k = some r) : f k' = some r := by
  obtain ⟨d, rfl⟩ : ∃ d, k' = k + d := ⟨k' - k, by omega⟩
  clear hk
  induction d with
  | zero => exact e
  | succ d ih => exact h (k + d) _ ih
theorem ref_Clear_ge (l : List SM) (m : List SC) (hm : m.length ≤ 1000000) (a n : Int) (k : Nat) (hk : 10 * m.length + 1 ≤ k) : ferryref03_Clear.f k l m a n = some (l, clearS m a n) :=
  le_mono (f := fun k => ferryref03_Clear.f k l m a n) (ferryref03_Clear.mono l m a n) hk (ref_Clear l m hm a n)
theorem ref04_Map_l0 {l : List SM} {m : List SC} {b : Int} {p : List SP} (hb : BaseG b) (P : PagesG p) {a n q : Int} (a0 : 0 ≤ a) (n0 : 0 < n) (hn : a + n ≤ 1048576) (hn2 : n ≤ 256) (d : List SP) (hd : d.length ≤ 256) (hdr : Rises pgK d) (hda : ∀ x ∈ d, x.f0 ≠ a) :
    ∀ (r k : Nat) (x : Int) (l' : List SM), FitH l' m → 0 ≤ x → x + (r : Int) = hoN b (a + n - 1) + 1 → r + 10 * m.length + n.toNat + 1000 < k →
    ferryref04_Map.l0 k a n q d x l m b p l' m = match mapLoopL p b (hostsL x (hoN b (a + n - 1))) l' with
      | none => some (l, m, b, p, 105)
      | some l2 => some (l2, clearS m (b + a * 4096) (n * 4096), b, insG d a n q, 0)
  | r, 0, x, l', _, _, _, h => by omega
  | r, k + 1, x, l', hF, x0, hx, h => by
    have h0 := hb.b0
    have h1 := hb.b1
    have h2 := hb.b2
    have hpn := P.pn
    have hln := hF.ln
    unfold ferryref04_Map.l0
    have e : ferryref04_hostPage.f l m b p ((((a + n) % 4294967296) - 1) % 4294967296) = some (hoN b (a + n - 1)) := by
      unfold ferryref04_hostPage.f hoN
      rw [Int.tdiv_eq_ediv_of_nonneg h0, u64w (b / 16384), u64w (_ % 4294967296), Int.tdiv_eq_ediv_of_nonneg (by omega), u64w (_ / 4), u64w]
      congr 1
      omega
    rw [e, Option.bind_some]
    match r with
    | 0 =>
      rw [if_neg (by omega), hostsL_nil (by omega)]
      have e2 : ferryref04_Place.f l m b p ((a * 4096) % 4294967296) = some (b + a * 4096) := by
        unfold ferryref04_Place.f
        rw [u64w (_ % 4294967296), u64w]
        congr 1
        omega
      rw [e2, Option.bind_some, u64w n, u64w, show n % 18446744073709551616 * 4096 % 18446744073709551616 = n * 4096 by omega, ref_Clear_ge l' m (by have := hF.mn; omega) _ _ k (by omega), Option.bind_some, ref04_with (by omega) hdr (by omega) (by omega) hda k (by omega)]
      rfl
    | r + 1 =>
      have hw : IntKind.u64.wrap (x + 1) = x + 1 := by rw [u64w]; unfold hoN at hx; omega
      have hhi : hoN b (a + n - 1) < 1125899906842624 := by unfold hoN; omega
      rw [if_pos (by omega), hostsL_cons (by omega), ref04_used l m hb (fun x hx => ⟨(P.pp x hx).1, (P.pp x hx).2.1⟩) (by omega) x k (by omega), Option.bind_some, hw]
      have e3 : mapLoopL p b (x :: hostsL (x + 1) (hoN b (a + n - 1))) l' = (mapStepL p b l' x).bind (mapLoopL p b (hostsL (x + 1) (hoN b (a + n - 1)))) := rfl
      rw [e3]
      unfold mapStepL
      by_cases hu : usedN p b x = true
      · rw [if_pos hu, if_pos hu, Option.bind_some]
        exact ref04_Map_l0 hb P a0 n0 hn hn2 d hd hdr hda r k (x + 1) l' hF (by omega) (by omega) (by omega)
      rw [if_neg hu, if_neg hu, ref_Map l' m hF.wl hln hF.lr x0 (by omega) (by omega) k (by omega), Option.bind_some]
      have hf2 := hF.map (n := 1) (p := 3) x0
      rw [mapS_cells l' m] at hf2 ⊢
      dsimp only at hf2 ⊢
      by_cases h3 : (mapS l' [] x 1 3).2.2 = 0
      · rw [if_pos h3, if_pos h3, Option.bind_some]
        exact ref04_Map_l0 hb P a0 n0 hn hn2 d hd hdr hda r k (x + 1) _ hf2 (by omega) (by omega) (by omega)
      rw [if_neg h3, if_neg h3]
      rfl
theorem ref04_Map {l : List SM} {m : List SC} {b : Int} {p : List SP} (hF : FitH l m) (hb : BaseG b) (P : PagesG p) {a n q : Int} (a0 : 0 ≤ a) (a1 : a < 4294967296) (n0 : 0 ≤ n) (n1 : n < 4294967296) (k : Nat) (hk : 10 * m.length + 3000000 < k) :
    ferryref04_Map.f k l m b p a n q = some ((mapG l m b p a n q).1, (mapG l m b p a n q).2.1, b, (mapG l m b p a n q).2.2.1, (mapG l m b p a n q).2.2.2) := by
  have h0 := hb.b0
  have h2 := hb.b2
  have hpn := P.pn
  unfold ferryref04_Map.f mapG
  rw [ref04_wrong a0 a1 n0 n1, Option.bind_some]
  by_cases hw : wrongG a n q = true
  · rw [if_pos hw, if_pos hw]
  rw [if_neg hw, if_neg hw]
  have hn := wrongG_no n0 hw
  have D := delS_P P a n
  have hlen := D.pn
  rw [ref04_without l m b p (by omega) a n k (by omega), Option.bind_some, show wrap64 (256 - ((delS p a n).length : Int)) % 4294967296 = 256 - ((delS p a n).length : Int) by unfold wrap64; omega]
  by_cases hf : 256 - ((delS p a n).length : Int) < n
  · rw [if_pos hf, if_pos hf]
  rw [if_neg hf, if_neg hf]
  have e : ferryref04_hostPage.f l m b p a = some (hoN b a) := by
    unfold ferryref04_hostPage.f hoN
    have h1 := hb.b1
    rw [Int.tdiv_eq_ediv_of_nonneg h0, u64w (b / 16384), u64w a, Int.tdiv_eq_ediv_of_nonneg (by omega), u64w (_ / 4), u64w]
    congr 1
    omega
  have hle : hoN b a ≤ hoN b (a + n - 1) ∧ hoN b (a + n - 1) - hoN b a ≤ n := by unfold hoN; omega
  rw [e, Option.bind_some, ref04_Map_l0 hb P a0 hn.1 hn.2.1 (by omega) (delS p a n) D.pn D.pr (fun x hx => ?_) (hoN b (a + n - 1) + 1 - hoN b a).toNat k (hoN b a) l hF (by unfold hoN; omega) (by omega) (by omega)]
  · cases mapLoopL p b (hostsL (hoN b a) (hoN b (a + n - 1))) l <;> rfl
  · have := ((delS_mem P a0).1 hx).2
    omega
end Go.Proofs.Ytjhfglpgpicmiaa.F
end
