import Derived.Test.YtjhfglpgpicmiaaVZF0
import Derived.Test.YtjhfglpgpicmiaaVA0
import Derived.Test.YtjhfglpgpicmiaaVA3
import Derived.Test.YtjhfglpgpicmiaaVA5
import Derived.Test.YtjhfglpgpicmiaaVA6HHost3
import Derived.Test.YtjhfglpgpicmiaaVA7
import Derived.Test.YtjhfglpgpicmiaaVA9
import Derived.Test.YtjhfglpgpicmiaaVA11
import Derived.Test.YtjhfglpgpicmiaaVA12FFerryref03Map
import Derived.Test.YtjhfglpgpicmiaaVA13FFerryref03Unmap
section
namespace Go.Proofs.Ytjhfglpgpicmiaa.F
open Go.RowKit Go.Shelf Go.Proofs.YtjhfglpgpicmiaaW.PrintWords Go.Proofs.YtjhfglpgpicmiaaW.PrintLast Go.Proofs.YtjhfglpgpicmiaaW.PrintMore
set_option linter.unusedVariables false
set_option linter.unusedSimpArgs false
def wrongS (a n p : Int) : Bool := decide (n = 0 ∨ a ≥ 1125899906842624 ∨ n > 1125899906842624 - a ∨ p < 0 ∨ p > 7)
theorem ref_wrong {a n p : Int} (a0 : 0 ≤ a) (a1 : a ≤ 18446744073709551615) (n0 : 0 ≤ n) : ferryref03_wrong.f a n p = some (wrongS a n p) := by
  unfold ferryref03_wrong.f wrongS
  rw [u64w]
  by_cases h1 : n = 0
  · rw [if_pos h1, decide_eq_true (by omega)]
  rw [if_neg h1]
  by_cases h2 : a ≥ 1125899906842624
  · rw [if_pos h2, decide_eq_true (by omega)]
  rw [if_neg h2]
  by_cases h3 : n > 1125899906842624 - a
  · rw [if_pos (by omega), decide_eq_true (by omega)]
  rw [if_neg (by omega)]
  by_cases h4 : p < 0
  · rw [if_pos h4, decide_eq_true (by omega)]
  rw [if_neg h4]
  congr 1
  exact decide_eq_decide.2 (by omega)
theorem host_wrong_spec {a n p : Int} (a0 : 0 ≤ a) (a1 : a ≤ 18446744073709551615) (n0 : 0 ≤ n) (p0 : -9223372036854775808 ≤ p) (p1 : p ≤ 9223372036854775807) : host_wrong.f a n p = some (wrongS a n p) := by
  unfold host_wrong.f host_badProt.f wrongS
  rw [u64w, Option.bind_some, badProt_iff p0 p1]
  by_cases h1 : n = 0
  · rw [if_pos h1, decide_eq_true (by omega)]
  rw [if_neg h1]
  by_cases h2 : a > 1125899906842624
  · rw [if_pos h2, decide_eq_true (by omega)]
  rw [if_neg h2]
  by_cases h3 : n > 1125899906842624 - a
  · rw [if_pos (by omega), decide_eq_true (by omega)]
  rw [if_neg (by omega)]
  by_cases h5 : a = 1125899906842624
  · omega
  congr 1
  by_cases h4 : 0 ≤ p ∧ p ≤ 7
  · rw [decide_eq_true h4, decide_eq_false (by omega)]
    rfl
  rw [decide_eq_false h4, decide_eq_true (by omega)]
  rfl
theorem withB_eq {p a n : Int} (p0 : 0 ≤ p) (p1 : p ≤ 18446744073709551615) (a0 : 0 ≤ a) : withB p a n = decide (a ≤ p ∧ p - a < n) := by
  unfold withB host_within.f
  rw [u64w]
  by_cases h : p ≥ a
  · rw [if_pos h, Option.getD_some]
    exact decide_eq_decide.2 (by omega)
  rw [if_neg h, Option.getD_some, decide_eq_false (by omega)]
theorem ref_out {p a n : Int} (p0 : 0 ≤ p) (p1 : p ≤ 18446744073709551615) (a0 : 0 ≤ a) {β : Type} (x y : β) : (if p < a then x else if IntKind.u64.wrap (p - a) ≥ n then x else y) = if withB p a n = true then y else x := by
  rw [withB_eq p0 p1 a0, u64w]
  by_cases h : p < a
  · rw [if_pos h, decide_eq_false (by omega), if_neg (by decide)]
  rw [if_neg h]
  by_cases h2 : p - a ≥ n
  · rw [if_pos (by omega), decide_eq_false (by omega), if_neg (by decide)]
  rw [if_neg (by omega), decide_eq_true (by omega), if_pos rfl]
theorem ref_in {p a n : Int} (p0 : 0 ≤ p) (p1 : p ≤ 18446744073709551615) (a0 : 0 ≤ a) {β : Type} (x y : β) : (if p ≥ a then (if IntKind.u64.wrap (p - a) < n then x else y) else y) = if withB p a n = true then x else y := by
  rw [withB_eq p0 p1 a0, u64w]
  by_cases h : p ≥ a
  · rw [if_pos h]
    by_cases h2 : p - a < n
    · rw [if_pos (by omega), decide_eq_true (by omega), if_pos rfl]
    rw [if_neg (by omega), decide_eq_false (by omega), if_neg (by decide)]
  rw [if_neg h, decide_eq_false (by omega), if_neg (by decide)]
theorem ref_Unmap_l1 (l : List SM) (m : List SC) (wm : ∀ x ∈ m, wfC x) (hm : m.length ≤ 1000000) {a n : Int} (a0 : 0 ≤ a) (o : List SM) : ∀ (k i : Nat) (o2 : List SC), i ≤ m.length → m.length - i < k → o2.length ≤ i →
    ferryref03_Unmap.l1 k a n o o2 (i : Int) l m = some (o, o2 ++ (m.drop i).filter (fun x => !withB (IntKind.u64.wrap (Int.tdiv x.f0 16384)) a n), 0)
  | 0, i, _, _, h, _ => by omega
  | k + 1, i, o2, hi, h, ho => by
    unfold ferryref03_Unmap.l1
    by_cases hlt : i < m.length
    · have hx : (0 ≤ m[i].f0 ∧ m[i].f0 ≤ 18446744073709551615) ∧ _ := wm _ (List.getElem_mem hlt)
      have hw : wrap64 ((i : Int) + 1) = ((i + 1 : Nat) : Int) := by unfold wrap64; omega
      have hq := quo_u64 hx.1.1 (show m[i].f0 < 18446744073709551616 by omega) (show (0 : Int) < 16384 by omega)
      have hq1 : m[i].f0 / 16384 ≤ m[i].f0 := Int.ediv_le_self _ hx.1.1
      have hq0 : 0 ≤ m[i].f0 / 16384 := Int.ediv_nonneg hx.1.1 (by omega)
      rw [if_pos (by omega), if_pos (by omega), cl_getR hlt, hw, if_pos (show o2.length < 8796093022208 by omega), hq, ref_out hq0 (by omega) a0, List.drop_eq_getElem_cons hlt, List.filter_cons, hq]
      by_cases hb : withB (m[i].f0 / 16384) a n = true
      · rw [if_pos hb, hb, if_neg (by simp), ref_Unmap_l1 l m wm hm a0 o k (i + 1) o2 hlt (by omega) (by omega)]
      rw [if_neg hb, if_pos (by simpa using hb), ref_Unmap_l1 l m wm hm a0 o k (i + 1) _ hlt (by omega) (by simp; omega), List.append_assoc]
      rfl
    rw [if_neg (by omega), List.drop_eq_nil_of_le (by omega)]
    simp
theorem ref_Unmap_l0 (l : List SM) (m : List SC) (wl : ∀ x ∈ l, wfM x) (wm : ∀ x ∈ m, wfC x) (hl : l.length ≤ 1000000) (hm : m.length ≤ 1000000) {a n : Int} (a0 : 0 ≤ a) : ∀ (k i : Nat) (o : List SM), i ≤ l.length → l.length - i + m.length + 1 < k → o.length ≤ i →
    ferryref03_Unmap.l0 k a n o (i : Int) l m = some (o ++ (l.drop i).filter (fun x => !withB x.f0 a n), m.filter (fun x => !withB (IntKind.u64.wrap (Int.tdiv x.f0 16384)) a n), 0)
  | 0, i, _, _, h, _ => by omega
  | k + 1, i, o, hi, h, ho => by
    unfold ferryref03_Unmap.l0
    by_cases hlt : i < l.length
    · have hx : (0 ≤ l[i].f0 ∧ l[i].f0 ≤ 18446744073709551615) ∧ _ := wl _ (List.getElem_mem hlt)
      have hw : wrap64 ((i : Int) + 1) = ((i + 1 : Nat) : Int) := by unfold wrap64; omega
      rw [if_pos (by omega), if_pos (by omega), mp_getR hlt, hw, if_pos (show o.length < 8796093022208 by omega), ref_out hx.1.1 hx.1.2 a0, List.drop_eq_getElem_cons hlt, List.filter_cons]
      by_cases hb : withB l[i].f0 a n = true
      · rw [if_pos hb, hb, if_neg (by simp), ref_Unmap_l0 l m wl wm hl hm a0 k (i + 1) o hlt (by omega) (by omega)]
      rw [if_neg hb, if_pos (by simpa using hb), ref_Unmap_l0 l m wl wm hl hm a0 k (i + 1) _ hlt (by omega) (by simp; omega), List.append_assoc]
      rfl
    rw [if_neg (by omega), List.drop_eq_nil_of_le (by omega)]
    have := ref_Unmap_l1 l m wm hm (n := n) a0 o k 0 [] (Nat.zero_le _) (by omega) (by simp)
    rw [show ((0 : Nat) : Int) = 0 from rfl] at this
    rw [this]
    simp
def unmapS (l : List SM) (m : List SC) (a n : Int) : List SM × List SC × Int :=
  if wrongS a n 0 = true then (l, m, 22) else (l.filter (fun x => !withB x.f0 a n), m.filter (fun x => !withB (x.f0 / 16384) a n), 0)
theorem filter_cells {m : List SC} (wm : ∀ x ∈ m, wfC x) (a n : Int) : m.filter (fun x => !withB (IntKind.u64.wrap (Int.tdiv x.f0 16384)) a n) = m.filter (fun x => !withB (x.f0 / 16384) a n) := by
  refine List.filter_congr (fun x hx => ?_)
  have hw : (0 ≤ x.f0 ∧ x.f0 ≤ 18446744073709551615) ∧ _ := wm x hx
  rw [quo_u64 hw.1.1 (by omega) (by omega)]
theorem ref_Unmap (l : List SM) (m : List SC) (wl : ∀ x ∈ l, wfM x) (wm : ∀ x ∈ m, wfC x) (hl : l.length ≤ 1000000) (hm : m.length ≤ 1000000) {a n : Int} (a0 : 0 ≤ a) (a1 : a ≤ 18446744073709551615) (n0 : 0 ≤ n) (k : Nat) (hk : l.length + m.length + 1 < k) :
    ferryref03_Unmap.f k l m a n = some (unmapS l m a n) := by
  unfold ferryref03_Unmap.f unmapS
  rw [ref_wrong a0 a1 n0, Option.bind_some]
  by_cases h : wrongS a n 0 = true
  · rw [if_pos h, if_pos h]
  rw [if_neg h, if_neg h]
  have := ref_Unmap_l0 l m wl wm hl hm (n := n) a0 k 0 [] (Nat.zero_le _) (by omega) (by simp)
  rw [show ((0 : Nat) : Int) = 0 from rfl] at this
  rw [this, filter_cells wm]
  simp
theorem host_Unmap_spec (l : List SM) (m : List SC) (wm : ∀ x ∈ m, wfC x) (hl : l.length ≤ 1000000) (hm : m.length ≤ 1000000) {a n : Int} (a0 : 0 ≤ a) (a1 : a ≤ 18446744073709551615) (n0 : 0 ≤ n) :
    host_Unmap.f l m a n = some (unmapS l m a n) := by
  unfold host_Unmap.f unmapS
  rw [host_wrong_spec a0 a1 n0 (by omega) (by omega), Option.bind_some]
  by_cases h : wrongS a n 0 = true
  · rw [if_pos h, if_pos h]
  rw [if_neg h, if_neg h, if_pos ⟨hl, hm⟩, filter_cells wm]
theorem has_filter {l : List SM} {k : Int} {p : SM → Bool} (h : has mpK k l = true) (hp : ∀ x ∈ l, mpK x = k → p x = true) : has mpK k (l.filter p) = true := by
  obtain ⟨x, hx, he⟩ := List.any_eq_true.1 h
  have he2 := of_decide_eq_true he
  exact List.any_eq_true.2 ⟨x, List.mem_filter.2 ⟨hx, hp x hx he2⟩, he⟩
theorem FitH.unmap {l : List SM} {m : List SC} (h : FitH l m) (a n : Int) : FitH (unmapS l m a n).1 (unmapS l m a n).2.1 := by
  unfold unmapS
  split
  · exact h
  · refine ⟨rises_filter mpK _ h.lr, Nat.le_trans (List.length_filter_le _ _) h.ln, fun x hx => h.lp x (List.mem_filter.1 hx).1, rises_filter clK _ h.mr, Nat.le_trans (List.length_filter_le _ _) h.mn, fun x hx => ?_⟩
    obtain ⟨h1, h2⟩ := List.mem_filter.1 hx
    have h3 := h.mp x h1
    refine ⟨h3.1, h3.2.1, h3.2.2.1, h3.2.2.2.1, h3.2.2.2.2.1, has_filter h3.2.2.2.2.2 (fun y hy he => ?_)⟩
    show (!withB (mpK y) a n) = true
    rw [he]
    exact h2
end Go.Proofs.Ytjhfglpgpicmiaa.F
end
section
namespace Go.Proofs.Ytjhfglpgpicmiaa.F
open Go.RowKit Go.Shelf Go.Proofs.YtjhfglpgpicmiaaW.PrintWords Go.Proofs.YtjhfglpgpicmiaaW.PrintLast Go.Proofs.YtjhfglpgpicmiaaW.PrintMore
set_option linter.unusedVariables false
set_option linter.unusedSimpArgs false
theorem moreP_length (a p : Int) (n : Nat) : (moreP a n p).length = n := by
  unfold moreP
  rw [List.length_map, List.length_range]
theorem moreP_succ (a p : Int) (n : Nat) : moreP a (n + 1) p = moreP a n p ++ [⟨IntKind.u64.wrap (a + (n : Int)), p⟩] := by
  unfold moreP
  rw [List.range_succ, List.map_append]
  rfl
theorem ref_Map_l2 (l : List SM) (m : List SC) (hl : l.length ≤ 1000000) {a p : Int} (N : Nat) (hN : N ≤ 1000000) (i : Nat) (o : List SM) (ho : o.length ≤ 1000000) : ∀ (d k j : Nat), j + d = N →
    ferryref03_Map.l2 (k + d + 1) a (N : Int) p (o ++ moreP a j p) (i : Int) (j : Int) l m = if i < l.length then ferryref03_Map.l1 k a (N : Int) p (o ++ moreP a N p ++ (l.drop i).take 1) true ((i + 1 : Nat) : Int) l m else ferryref03_Map.l1 k a (N : Int) p (o ++ moreP a N p) true (wrap64 ((i : Int) + 1)) l m
  | 0, k, j, hj => by
    obtain rfl : j = N := by omega
    unfold ferryref03_Map.l2
    have hlen : (o ++ moreP a j p).length = o.length + j := by rw [List.length_append, moreP_length]
    rw [if_neg (by omega)]
    by_cases hi : i < l.length
    · have hw : wrap64 ((i : Int) + 1) = ((i + 1 : Nat) : Int) := by unfold wrap64; omega
      rw [if_pos (by omega), if_pos (by omega), if_pos (by omega), if_pos hi, mp_getR hi, hw, List.drop_eq_getElem_cons hi]
      rfl
    rw [if_neg (by omega), if_neg hi]
  | d + 1, k, j, hj => by
    have hlen : (o ++ moreP a j p).length = o.length + j := by rw [List.length_append, moreP_length]
    have hw : IntKind.u64.wrap ((j : Int) + 1) = ((j + 1 : Nat) : Int) := by rw [u64w]; omega
    rw [show k + (d + 1) + 1 = (k + d + 1) + 1 by omega]
    conv => lhs; unfold ferryref03_Map.l2
    rw [if_pos (by omega), if_pos (by omega), hw, List.append_assoc, ← moreP_succ]
    exact ref_Map_l2 l m hl N hN i o ho d k (j + 1) (by omega)
theorem ref_Map_l1_true (l : List SM) (m : List SC) (hl : l.length ≤ 1000000) {a n p : Int} : ∀ (k i : Nat) (o : List SM), i ≤ l.length → 2 * (l.length + 1 - i) < k → o.length ≤ 2000000 + i →
    ferryref03_Map.l1 k a n p o true (i : Int) l m = some (o ++ l.drop i, m, 0)
  | 0, i, _, _, h, _ => by omega
  | 1, i, _, hi, h, _ => by omega
  | k + 2, i, o, hi, h, ho => by
    unfold ferryref03_Map.l1
    rw [if_pos (by omega), if_pos rfl]
    unfold ferryref03_Map.j2
    have hw : wrap64 ((i : Int) + 1) = ((i + 1 : Nat) : Int) := by unfold wrap64; omega
    rw [if_neg (show ¬ (false = true) by decide), hw]
    by_cases hlt : i < l.length
    · rw [if_pos (by omega), if_pos (by omega), if_pos (by omega), mp_getR hlt, ref_Map_l1_true l m hl k (i + 1) _ hlt (by omega) (by simp; omega), List.drop_eq_getElem_cons hlt, List.append_assoc]
      rfl
    rw [if_neg (by omega), List.drop_eq_nil_of_le (by omega), List.append_nil]
    obtain ⟨k, rfl⟩ : ∃ q, k = q + 1 := ⟨k - 1, by omega⟩
    unfold ferryref03_Map.l1
    rw [if_neg (by omega)]
theorem ref_Map_l1 (l : List SM) (m : List SC) (hl : l.length ≤ 1000000) (hr : Rises mpK l) {a p : Int} (N : Nat) (hN : N ≤ 1000000) (hna : ∀ x ∈ l, x.f0 ≠ a) : ∀ (k i : Nat), i ≤ lowB mpK a l → 2 * (l.length + 1 - i) + N + 6 < k →
    ferryref03_Map.l1 k a (N : Int) p (l.take i) false (i : Int) l m = some (l.take (lowB mpK a l) ++ moreP a N p ++ l.drop (lowB mpK a l), m, 0)
  | 0, i, _, h => by omega
  | 1, i, hi, h => by omega
  | k + 2, i, hi, h => by
    have hL := lowB_le mpK a l
    have hlen : (l.take i).length ≤ i := List.length_take_le _ _
    have hw : wrap64 ((i : Int) + 1) = ((i + 1 : Nat) : Int) := by unfold wrap64; omega
    have INS : i = lowB mpK a l → ferryref03_Map.l2 k a (N : Int) p (l.take i) (i : Int) 0 l m = some (l.take (lowB mpK a l) ++ moreP a N p ++ l.drop (lowB mpK a l), m, 0) := by
      intro e
      obtain ⟨q, rfl⟩ : ∃ q, k = q + N + 1 := ⟨k - N - 1, by omega⟩
      have h2 := ref_Map_l2 l m hl (a := a) (p := p) N hN i (l.take i) (by omega) N q 0 (by omega)
      rw [show moreP a 0 p = [] from rfl, List.append_nil] at h2
      refine h2.trans ?_
      have hlen2 : (l.take i ++ moreP a N p).length ≤ i + N := by rw [List.length_append, moreP_length]; omega
      by_cases hlt : i < l.length
      · rw [if_pos hlt, ref_Map_l1_true l m hl q (i + 1) _ hlt (by omega) (by rw [List.length_append]; have : ((l.drop i).take 1).length ≤ 1 := List.length_take_le _ _; omega), e, List.append_assoc (_ ++ _)]
        congr 3
        rw [← e, List.drop_eq_getElem_cons hlt]
        rfl
      rw [if_neg hlt, hw]
      obtain ⟨q, rfl⟩ : ∃ z, q = z + 1 := ⟨q - 1, by omega⟩
      unfold ferryref03_Map.l1
      rw [if_neg (by omega), ← e, List.drop_eq_nil_of_le (by omega), List.append_nil]
    unfold ferryref03_Map.l1
    rw [if_pos (by omega), if_neg (show ¬ (false = true) by decide)]
    by_cases hle : i = l.length
    · rw [if_pos (by omega)]
      unfold ferryref03_Map.j2
      rw [if_pos rfl]
      exact INS (by omega)
    have hlt : i < l.length := by omega
    rw [if_neg (by omega), if_pos (by omega), if_pos (by omega), mp_getR hlt]
    unfold ferryref03_Map.j2
    by_cases hi2 : i = lowB mpK a l
    · have h1 := lowB_ge mpK a hr i hlt (by omega)
      have h2 := hna _ (List.getElem_mem hlt)
      have h3 : mpK l[i] = l[i].f0 := rfl
      rw [decide_eq_true (by omega), if_pos rfl]
      exact INS hi2
    have h1 := lowB_lt mpK a l i hlt (by omega)
    have h3 : mpK l[i] = l[i].f0 := rfl
    rw [decide_eq_false (by omega), if_neg (by decide), if_pos (by omega), if_pos (by omega), if_pos (by omega), hw, mp_getR hlt]
    have e : l.take i ++ [(⟨l[i].f0, l[i].f1⟩ : SM)] = l.take (i + 1) := by
      rw [List.take_succ_eq_append_getElem hlt]
    rw [e]
    exact ref_Map_l1 l m hl hr N hN hna k (i + 1) (by omega) (by omega)
def mapS (l : List SM) (m : List SC) (a n p : Int) : List SM × List SC × Int :=
  if wrongS a n p = true then (l, m, 22) else if l.any (fun x => withB x.f0 a n) = true then (l, m, 17) else if n > 64 - (l.length : Int) then (l, m, 105) else (l.take (lowB mpK a l) ++ moreP a n.toNat p ++ l.drop (lowB mpK a l), m, 0)
theorem ref_Map_l0 (l : List SM) (m : List SC) (wl : ∀ x ∈ l, wfM x) (hl : l.length ≤ 64) (hr : Rises mpK l) {a n p : Int} (a0 : 0 ≤ a) (n0 : 0 < n) : ∀ (k i : Nat), i ≤ l.length → (l.length - i) + 2 * (l.length + 1) + n.toNat + 8 < k →
    (∀ j (hj : j < l.length), j < i → withB l[j].f0 a n = false) →
    ferryref03_Map.l0 k a n p (i : Int) l m = if l.any (fun x => withB x.f0 a n) = true then some (l, m, 17) else if n > 64 - (l.length : Int) then some (l, m, 105) else some (l.take (lowB mpK a l) ++ moreP a n.toNat p ++ l.drop (lowB mpK a l), m, 0)
  | 0, i, _, h, _ => by omega
  | k + 1, i, hi, h, hn => by
    unfold ferryref03_Map.l0
    by_cases hlt : i < l.length
    · have hx : (0 ≤ l[i].f0 ∧ l[i].f0 ≤ 18446744073709551615) ∧ _ := wl _ (List.getElem_mem hlt)
      have hw : wrap64 ((i : Int) + 1) = ((i + 1 : Nat) : Int) := by unfold wrap64; omega
      rw [if_pos (by omega), if_pos (by omega), mp_getR hlt, hw, ref_in hx.1.1 hx.1.2 a0]
      cases hb : withB l[i].f0 a n with
      | true =>
        rw [if_pos rfl, if_pos (List.any_eq_true.2 ⟨_, List.getElem_mem hlt, hb⟩)]
      | false =>
        rw [if_neg (by decide)]
        refine ref_Map_l0 l m wl hl hr a0 n0 k (i + 1) hlt (by omega) (fun j hj hji => ?_)
        rcases Nat.lt_or_ge j i with h1 | h1
        · exact hn j hj h1
        · obtain rfl : j = i := by omega
          exact hb
    obtain rfl : i = l.length := by omega
    have hany : l.any (fun x => withB x.f0 a n) = false := List.any_eq_false.2 (fun x hx => by
      obtain ⟨j, hj, rfl⟩ := List.getElem_of_mem hx
      rw [hn j hj hj]
      simp)
    have hw : IntKind.u64.wrap (wrap64 (64 - (l.length : Int))) = 64 - (l.length : Int) := by rw [u64w]; unfold wrap64; omega
    rw [if_neg (by omega), hany, if_neg (show ¬ (false = true) by decide), hw]
    by_cases hf : n > 64 - (l.length : Int)
    · rw [if_pos hf, if_pos hf]
    rw [if_neg hf, if_neg hf]
    have hna : ∀ x ∈ l, x.f0 ≠ a := fun x hx e => by
      have h1 := List.any_eq_false.1 hany x hx
      have hw2 : (0 ≤ x.f0 ∧ x.f0 ≤ 18446744073709551615) ∧ _ := wl _ hx
      rw [withB_eq hw2.1.1 hw2.1.2 a0] at h1
      simp at h1
      omega
    have h2 := ref_Map_l1 l m (by omega) hr (a := a) (p := p) n.toNat (by omega) hna k 0 (Nat.zero_le _) (by omega)
    rw [show ((n.toNat : Nat) : Int) = n by omega] at h2
    exact h2
theorem ref_Map (l : List SM) (m : List SC) (wl : ∀ x ∈ l, wfM x) (hl : l.length ≤ 64) (hr : Rises mpK l) {a n p : Int} (a0 : 0 ≤ a) (a1 : a ≤ 18446744073709551615) (n0 : 0 ≤ n) (k : Nat) (hk : 3 * l.length + n.toNat + 12 < k) :
    ferryref03_Map.f k l m a n p = some (mapS l m a n p) := by
  unfold ferryref03_Map.f mapS
  rw [ref_wrong a0 a1 n0, Option.bind_some]
  by_cases h : wrongS a n p = true
  · rw [if_pos h, if_pos h]
  rw [if_neg h, if_neg h]
  have hne : n ≠ 0 := fun e => h (by unfold wrongS; exact decide_eq_true (Or.inl e))
  have := ref_Map_l0 l m wl hl hr (p := p) a0 (show 0 < n by omega) k 0 (Nat.zero_le _) (by omega) (fun j _ hj => by omega)
  rw [show ((0 : Nat) : Int) = 0 from rfl] at this
  rw [this]
  split
  · rfl
  · split <;> rfl
theorem host_Map_spec (l : List SM) (m : List SC) (wl : ∀ x ∈ l, wfM x) (hl : l.length ≤ 64) (hr : Rises mpK l) {a n p : Int} (a0 : 0 ≤ a) (a1 : a ≤ 18446744073709551615) (n0 : 0 ≤ n) (p0 : -9223372036854775808 ≤ p) (p1 : p ≤ 9223372036854775807) :
    host_Map.f l m a n p = some (mapS l m a n p) := by
  unfold host_Map.f mapS
  rw [host_wrong_spec a0 a1 n0 p0 p1, Option.bind_some]
  by_cases h : wrongS a n p = true
  · rw [if_pos h, if_pos h]
  have hne : n ≠ 0 := fun e => h (by unfold wrongS; exact decide_eq_true (Or.inl e))
  have hw : IntKind.u64.wrap (wrap64 (64 - (l.length : Int))) = 64 - (l.length : Int) := by rw [u64w]; unfold wrap64; omega
  rw [if_neg h, if_neg h, if_pos (by omega), hw]
  split
  · rfl
  · split
    · rfl
    · rw [if_pos ⟨by omega, by omega, (risesB_iff l).2 hr⟩]
theorem has_append {α : Type} {key : α → Int} (k : Int) (l m : List α) : has key k (l ++ m) = (has key k l || has key k m) := by
  unfold has
  rw [List.any_append]
theorem moreP_mem {a p : Int} {n : Nat} (a0 : 0 ≤ a) (h : a + (n : Int) ≤ 18446744073709551616) {x : SM} (hx : x ∈ moreP a n p) : ∃ i : Nat, i < n ∧ x.f0 = a + (i : Int) ∧ x.f1 = p := by
  unfold moreP at hx
  obtain ⟨i, hi, rfl⟩ := List.mem_map.1 hx
  have hi2 := List.mem_range.1 hi
  exact ⟨i, hi2, by show IntKind.u64.wrap _ = _; rw [u64w]; omega, rfl⟩
theorem moreP_rises {a p : Int} (a0 : 0 ≤ a) : ∀ {n : Nat}, a + (n : Int) ≤ 18446744073709551616 → Rises mpK (moreP a n p)
  | 0, _ => trivial
  | n + 1, h => by
    rw [moreP_succ]
    refine rises_append mpK (moreP_rises a0 (by omega)) trivial (fun x hx y hy => ?_)
    obtain ⟨i, hi, hx2, _⟩ := moreP_mem a0 (by omega) hx
    rw [List.mem_singleton] at hy
    subst hy
    show x.f0 < IntKind.u64.wrap _
    rw [u64w, hx2]
    omega
theorem mapS_keys {l : List SM} {a n : Int} (a0 : 0 ≤ a) (wl : ∀ x ∈ l, wfM x) (hany : l.any (fun x => withB x.f0 a n) = false) : ∀ x ∈ l, x.f0 < a ∨ a + n ≤ x.f0 := fun x hx => by
  have h1 := List.any_eq_false.1 hany x hx
  have hw2 : (0 ≤ x.f0 ∧ x.f0 ≤ 18446744073709551615) ∧ _ := wl _ hx
  rw [withB_eq hw2.1.1 hw2.1.2 a0] at h1
  simp at h1
  omega
theorem FitH.map {l : List SM} {m : List SC} (h : FitH l m) {a n p : Int} (a0 : 0 ≤ a) : FitH (mapS l m a n p).1 (mapS l m a n p).2.1 := by
  unfold mapS
  split
  · exact h
  rename_i hw
  split
  · exact h
  rename_i hany
  split
  · exact h
  rename_i hf
  have hw2 : ¬ (n = 0 ∨ a ≥ 1125899906842624 ∨ n > 1125899906842624 - a ∨ p < 0 ∨ p > 7) := by
    unfold wrongS at hw
    simpa only [decide_eq_true_eq] using hw
  have hk := mapS_keys a0 h.wl (Bool.eq_false_iff.2 hany)
  by_cases n0 : 0 < n
  rotate_left
  · have e0 : n.toNat = 0 := by omega
    dsimp only
    rw [e0, show moreP a 0 p = [] from rfl, List.append_nil, List.take_append_drop]
    exact h
  have hn : ((n.toNat : Nat) : Int) = n := by omega
  have hd : ∀ y ∈ l.drop (lowB mpK a l), a + n ≤ y.f0 := fun y hy => by
    have h1 := drop_lowB mpK a h.lr y hy
    have h2 := hk y (List.mem_of_mem_drop hy)
    have h3 : mpK y = y.f0 := rfl
    omega
  refine ⟨?_, ?_, fun x hx => ?_, h.mr, h.mn, fun x hx => ?_⟩
  · refine rises_append mpK (rises_append mpK (rises_left mpK (m := l.drop (lowB mpK a l)) (by rw [List.take_append_drop]; exact h.lr)) (moreP_rises a0 (by omega)) (fun x hx y hy => ?_)) (rises_right mpK (l := l.take (lowB mpK a l)) (by rw [List.take_append_drop]; exact h.lr)) (fun x hx y hy => ?_)
    · have h1 := take_lowB mpK a l x hx
      obtain ⟨i, hi, h2, _⟩ := moreP_mem a0 (by omega) hy
      have h3 : mpK y = y.f0 := rfl
      omega
    · have h1 := hd y hy
      have h3 : mpK y = y.f0 := rfl
      rcases List.mem_append.1 hx with hx | hx
      · have h2 := take_lowB mpK a l x hx
        omega
      · obtain ⟨i, hi, h2, _⟩ := moreP_mem a0 (by omega) hx
        have h4 : mpK x = x.f0 := rfl
        omega
  · have hL := lowB_le mpK a l
    simp only [List.length_append, moreP_length, List.length_take, List.length_drop]
    omega
  · rcases List.mem_append.1 hx with hx | hx
    · rcases List.mem_append.1 hx with hx | hx
      · exact h.lp x (List.mem_of_mem_take hx)
      · obtain ⟨i, hi, h2, h3⟩ := moreP_mem a0 (by omega) hx
        rw [h2, h3]
        omega
    · exact h.lp x (List.mem_of_mem_drop hx)
  · have h1 := h.mp x hx
    refine ⟨h1.1, h1.2.1, h1.2.2.1, h1.2.2.2.1, h1.2.2.2.2.1, ?_⟩
    have h2 := h1.2.2.2.2.2
    rw [← List.take_append_drop (lowB mpK a l) l, has_append] at h2
    rw [has_append, has_append]
    revert h2
    cases has mpK (x.f0 / 16384) (l.take (lowB mpK a l)) <;> cases has mpK (x.f0 / 16384) (l.drop (lowB mpK a l)) <;> simp
end Go.Proofs.Ytjhfglpgpicmiaa.F
end
section
namespace Go.Proofs.Ytjhfglpgpicmiaa.F
open Go.RowKit Go.Shelf Go.Proofs.YtjhfglpgpicmiaaW.PrintWords Go.Proofs.YtjhfglpgpicmiaaW.PrintLast Go.Proofs.YtjhfglpgpicmiaaW.PrintMore
set_option linter.unusedVariables false
set_option linter.unusedSimpArgs false
def givP (a n p : Int) (x : SM) : SM := if withB x.f0 a n = true then ⟨x.f0, p⟩ else x
theorem givP_key (a n p : Int) (x : SM) : mpK (givP a n p x) = mpK x := by
  unfold givP
  split <;> rfl
def protS (l : List SM) (m : List SC) (a n p : Int) : List SM × List SC × Int :=
  if wrongS a n p = true then (l, m, 22) else if ((l.filter (fun x => withB x.f0 a n)).length : Int) < n then (l, m, 2) else (l.map (givP a n p), m, 0)
theorem rises_low {α : Type} {key : α → Int} : ∀ {l : List α} {a : Int}, Rises key l → (∀ x ∈ l, a ≤ key x) → ∀ (j : Nat) (hj : j < l.length), a + (j : Int) ≤ key l[j]
  | [], _, _, _, j, hj => by simp at hj
  | x :: l, a, _, h, 0, hj => by
    have := h x List.mem_cons_self
    simpa using this
  | x :: l, a, hr, h, j + 1, hj => by
    have h1 := h x List.mem_cons_self
    have h2 := rises_low (a := a + 1) (rises_tail key hr) (fun y hy => by have := rises_head key hr y hy; omega) j (by simpa using hj)
    have h3 : (x :: l)[j + 1] = l[j]'(by simpa using hj) := rfl
    rw [h3]
    omega
theorem filter_run {α : Type} (p : α → Bool) : ∀ (d : List α) (r : Nat), r ≤ d.length → (∀ (j : Nat) (hj : j < d.length), p d[j] = decide (j < r)) → (d.filter p).length = r
  | [], r, hr, _ => by simp at hr; simp [hr]
  | x :: d, 0, _, h => by
    have h0 := h 0 (by simp)
    simp only [List.getElem_cons_zero] at h0
    rw [List.filter_cons, h0, decide_eq_false (by omega), if_neg (by decide)]
    exact filter_run p d 0 (Nat.zero_le _) (fun j hj => by
      have := h (j + 1) (by simpa using hj)
      rw [decide_eq_false (by omega)] at this ⊢
      exact this)
  | x :: d, r + 1, hr, h => by
    have h0 := h 0 (by simp)
    simp only [List.getElem_cons_zero] at h0
    rw [List.filter_cons, h0, decide_eq_true (by omega), if_pos rfl, List.length_cons]
    congr 1
    exact filter_run p d r (by simpa using hr) (fun j hj => by
      have := h (j + 1) (by simpa using hj)
      rw [List.getElem_cons_succ] at this
      rw [this]
      exact decide_eq_decide.2 (by omega))
theorem filter_none {α : Type} {p : α → Bool} {l : List α} (h : ∀ x ∈ l, p x = false) : l.filter p = [] := by
  rw [List.filter_eq_nil_iff]
  intro x hx
  rw [h x hx]
  simp
theorem has_map {l : List SM} (f : SM → SM) (hf : ∀ x, mpK (f x) = mpK x) (k : Int) : has mpK k (l.map f) = has mpK k l := by
  unfold has
  rw [List.any_map]
  congr 1
  funext x
  show decide (mpK (f x) = k) = _
  rw [hf]
theorem FitH.protect {l : List SM} {m : List SC} (h : FitH l m) {a n p : Int} (a0 : 0 ≤ a) : FitH (protS l m a n p).1 (protS l m a n p).2.1 := by
  unfold protS
  split
  · exact h
  rename_i hw
  split
  · exact h
  have hw2 : ¬ (n = 0 ∨ a ≥ 1125899906842624 ∨ n > 1125899906842624 - a ∨ p < 0 ∨ p > 7) := by
    unfold wrongS at hw
    simpa only [decide_eq_true_eq] using hw
  refine ⟨rises_map mpK _ (givP_key a n p) h.lr, by rw [List.length_map]; exact h.ln, fun x hx => ?_, h.mr, h.mn, fun x hx => ?_⟩
  · obtain ⟨y, hy, rfl⟩ := List.mem_map.1 hx
    have := h.lp y hy
    unfold givP
    split
    · dsimp only
      omega
    · exact this
  · have := h.mp x hx
    exact ⟨this.1, this.2.1, this.2.2.1, this.2.2.2.1, this.2.2.2.2.1, (has_map _ (givP_key a n p) _).trans this.2.2.2.2.2⟩
end Go.Proofs.Ytjhfglpgpicmiaa.F
end
section
namespace Go.Proofs.Ytjhfglpgpicmiaa.F
open Go.RowKit Go.Shelf Go.Proofs.YtjhfglpgpicmiaaW.PrintWords Go.Proofs.YtjhfglpgpicmiaaW.PrintLast Go.Proofs.YtjhfglpgpicmiaaW.PrintMore
set_option linter.unusedVariables false
set_option linter.unusedSimpArgs false
theorem rises_pair {α : Type} (key : α → Int) : ∀ l : List α, Rises key l ↔ (l.map key).Pairwise (· < ·)
  | [] => ⟨fun _ => List.Pairwise.nil, fun _ => trivial⟩
  | x :: l => by
    rw [List.map_cons, List.pairwise_cons, ← rises_pair key l]
    refine ⟨fun h => ⟨fun b hb => ?_, rises_tail key h⟩, fun h => rises_cons key (fun y hy => h.1 _ (List.mem_map.2 ⟨y, hy, rfl⟩)) h.2⟩
    obtain ⟨y, hy, rfl⟩ := List.mem_map.1 hb
    exact rises_head key h y hy
theorem setL_length (a u : Int) (l : List S60) : (setL a u l).length ≤ l.length + 1 := by
  have h := lowB_le clK a l
  unfold setL
  split
  · split
    · have := List.length_eraseIdx_le l (lowB clK a l)
      omega
    · rw [List.length_set]; omega
  · split
    · omega
    · simp only [List.length_append, List.length_take, List.length_drop, List.length_cons, List.length_nil]; omega
theorem setL_rises {l : List S60} (h : Rises clK l) (a u : Int) : Rises clK (setL a u l) := by
  have hh := has_lowB clK (k := a) h
  unfold setL
  split
  · split
    · exact (rises_pair clK _).2 (((rises_pair clK _).1 h).sublist ((List.eraseIdx_sublist l _).map clK))
    · rename_i h1 h2
      rw [h1] at hh
      refine (rises_pair clK _).2 ?_
      rw [List.map_set]
      have hi : lowB clK a l < l.length := by
        rcases Nat.lt_or_ge (lowB clK a l) l.length with h | h
        · exact h
        · rw [List.getElem?_eq_none h] at hh
          cases hh
      rw [List.getElem?_eq_getElem hi] at hh
      have hx : clK l[lowB clK a l] = a := of_decide_eq_true hh.symm
      have e : clK ⟨a, u⟩ = (l.map clK)[lowB clK a l]'(by simpa using hi) := by
        rw [List.getElem_map, hx]
      rw [e, List.set_getElem_self]
      exact (rises_pair clK _).1 h
  · split
    · exact h
    · rename_i h1 h2
      have hn : ∀ x ∈ l, clK x ≠ a := fun x hx e => h1 (List.any_eq_true.2 ⟨x, hx, decide_eq_true e⟩)
      have ht : Rises clK (l.take (lowB clK a l)) := by
        have := h
        rw [← List.take_append_drop (lowB clK a l) l] at this
        exact rises_left clK this
      have hd : Rises clK (l.drop (lowB clK a l)) := by
        have := h
        rw [← List.take_append_drop (lowB clK a l) l] at this
        exact rises_right clK this
      rw [List.append_assoc, List.singleton_append]
      refine rises_append clK ht (rises_cons clK (fun y hy => ?_) hd) (fun x hx y hy => ?_)
      · have h3 := drop_lowB clK a h y hy
        have h4 := hn y (List.mem_of_mem_drop hy)
        show a < clK y
        omega
      · have h5 := take_lowB clK a l x hx
        rcases List.mem_cons.1 hy with rfl | hy
        · exact h5
        · have h3 := drop_lowB clK a h y hy
          omega
end Go.Proofs.Ytjhfglpgpicmiaa.F
end
section
namespace Go.Proofs.Ytjhfglpgpicmiaa.F
open Go.RowKit Go.Shelf Go.Proofs.YtjhfglpgpicmiaaW.PrintWords Go.Proofs.YtjhfglpgpicmiaaW.PrintLast Go.Proofs.YtjhfglpgpicmiaaW.PrintMore
set_option linter.unusedVariables false
set_option linter.unusedSimpArgs false
theorem p256 (o : Nat) : (2 : Nat) ^ (8 * o) = 256 ^ o := by rw [Nat.pow_mul]
theorem p256_8 : (256 : Nat) ^ 8 = 18446744073709551616 := by decide
theorem p256_le {o : Nat} (h : o ≤ 8) : 256 ^ o ≤ (18446744073709551616 : Nat) := by
  rw [← p256_8]
  exact Nat.pow_le_pow_right (by decide) h
theorem clr64 {w o m : Nat} (hw : w < 256 ^ 8) (ho : o + m ≤ 8) : Go.bits .andNot .u64 (w : Int) (((256 ^ m - 1) * 256 ^ o : Nat) : Int) = ((putIn w o m 0 : Nat) : Int) := by
  have hp : 256 ^ m * 256 ^ o ≤ (18446744073709551616 : Nat) := by rw [← Nat.pow_add]; exact p256_le (by omega)
  have hpm := pos256 m
  have hpo := pos256 o
  have hM : (256 ^ m - 1) * 256 ^ o < 2 ^ 64 := by
    have : (256 ^ m - 1) * 256 ^ o < 256 ^ m * 256 ^ o := Nat.mul_lt_mul_of_pos_right (by omega) hpo
    omega
  have hw2 : w < 2 ^ 64 := by rw [p256_8] at hw; exact hw
  rw [andNot64 w _ hw2 hM]
  have e : w &&& ((256 ^ m - 1) * 256 ^ o) = w / 256 ^ o % 256 ^ m * 256 ^ o := by
    rw [← p256 m, ← p256 o, nat_mask_at]
  have hle : w &&& ((256 ^ m - 1) * 256 ^ o) ≤ w := Nat.and_le_left
  rw [putIn_eq, ← e, Nat.zero_mod, Nat.zero_mul]
  omega
structure CellsH (m : List SC) : Prop where
  mr : Rises clK m
  mp : ∀ x ∈ m, 0 ≤ x.f0 ∧ x.f0 < 18446744073709551616 ∧ x.f0 % 8 = 0 ∧ 0 < x.f1 ∧ x.f1 < 18446744073709551616
theorem FitH.cells {l : List SM} {m : List SC} (h : FitH l m) : CellsH m := ⟨h.mr, fun x hx => by
  have := h.mp x hx
  exact ⟨this.1, this.2.1, this.2.2.1, this.2.2.2.1, this.2.2.2.2.1⟩⟩
theorem look_bd {m : List SC} {b : Int} (hb : 0 < b) (h : ∀ x ∈ m, 0 ≤ x.f1 ∧ x.f1 < b) (a : Int) : 0 ≤ wrd m a ∧ wrd m a < b := by
  unfold wrd
  induction m with
  | nil => exact ⟨Int.le_refl _, hb⟩
  | cons x m ih =>
    unfold look
    split
    · exact h x List.mem_cons_self
    · exact ih (fun y hy => h y (List.mem_cons_of_mem _ hy))
theorem CellsH.bd {m : List SC} (h : CellsH m) (a : Int) : 0 ≤ wrd m a ∧ wrd m a < 18446744073709551616 := look_bd (by omega) (fun x hx => by have := h.mp x hx; omega) a
theorem CellsH.off {m : List SC} (h : CellsH m) {a : Int} (ha : a % 8 ≠ 0) : wrd m a = 0 := look_none clK clV (fun x hx e => ha (by rw [← e]; exact (h.mp x hx).2.2.1))
def wN (m : List SC) (a : Nat) : Nat := (wrd m (a : Int)).toNat
theorem CellsH.wN_lt {m : List SC} (h : CellsH m) (a : Nat) : wN m a < 256 ^ 8 := by
  have := h.bd (a : Int)
  unfold wN
  rw [p256_8]
  omega
theorem has_mem {α : Type} {key : α → Int} {k : Int} {l : List α} : has key k l = true ↔ ∃ x ∈ l, key x = k := by
  unfold has
  rw [List.any_eq_true]
  constructor
  · rintro ⟨x, hx, h⟩
    exact ⟨x, hx, of_decide_eq_true h⟩
  · rintro ⟨x, hx, h⟩
    exact ⟨x, hx, decide_eq_true h⟩
def setF (a u : Int) (m : List SC) : List SC :=
  if u = 0 then m.filter (fun x => !decide (x.f0 = a)) else m.take (lowB clK a m) ++ [⟨a, u⟩] ++ (m.drop (lowB clK a m)).filter (fun x => !decide (x.f0 = a))
theorem drop_ne {m : List SC} {a : Int} (hr : Rises clK m) : (m.drop (lowB clK a m)).filter (fun x => !decide (x.f0 = a)) = if has clK a m = true then m.drop (lowB clK a m + 1) else m.drop (lowB clK a m) := by
  split
  · rename_i h
    obtain ⟨hj, h1, _⟩ := low_hit (val := clV) hr h
    rw [List.drop_eq_getElem_cons hj, List.filter_cons, if_neg (by simp; exact h1), List.filter_eq_self]
    intro x hx
    have h2 : Rises clK (m.drop (lowB clK a m)) := rises_right clK (l := m.take (lowB clK a m)) (by rw [List.take_append_drop]; exact hr)
    rw [List.drop_eq_getElem_cons hj] at h2
    have h3 := rises_head clK h2 x hx
    have h4 : clK x = x.f0 := rfl
    simp
    omega
  · rename_i h
    rw [List.filter_eq_self]
    intro x hx
    have : x.f0 ≠ a := fun e => h (has_mem.2 ⟨x, List.mem_of_mem_drop hx, e⟩)
    simpa using this
theorem take_ne {m : List SC} {a : Int} : (m.take (lowB clK a m)).filter (fun x => !decide (x.f0 = a)) = m.take (lowB clK a m) := by
  rw [List.filter_eq_self]
  intro x hx
  have h1 := take_lowB clK a m x hx
  have h4 : clK x = x.f0 := rfl
  simp
  omega
theorem setL_setF {m : List SC} (hr : Rises clK m) (a u : Int) : setL a u m = setF a u m := by
  unfold setL setF
  by_cases hu : u = 0
  · rw [if_pos hu, if_pos hu, if_pos hu]
    conv => rhs; rw [← List.take_append_drop (lowB clK a m) m]
    rw [List.filter_append, take_ne, drop_ne hr]
    split
    · rw [List.eraseIdx_eq_take_drop_succ]
    · rw [List.take_append_drop]
  rw [if_neg hu, if_neg hu, if_neg hu, drop_ne hr]
  by_cases h : has clK a m = true
  · obtain ⟨hj, h1, _⟩ := low_hit (val := clV) hr h
    rw [if_pos h, if_pos h, List.set_eq_take_append_cons_drop, if_pos hj, List.append_assoc]
    rfl
  rw [if_neg h, if_neg h]
theorem mem_setF {m : List SC} {a u : Int} {x : SC} (h : x ∈ setF a u m) : x ∈ m ∨ (x = ⟨a, u⟩ ∧ u ≠ 0) := by
  unfold setF at h
  split at h
  · exact Or.inl (List.mem_filter.1 h).1
  · rename_i hu
    rcases List.mem_append.1 h with h | h
    · rcases List.mem_append.1 h with h | h
      · exact Or.inl (List.mem_of_mem_take h)
      · exact Or.inr ⟨List.mem_singleton.1 h, hu⟩
    · exact Or.inl (List.mem_of_mem_drop (List.mem_filter.1 h).1)
theorem CellsH.set {m : List SC} (h : CellsH m) {a u : Int} (a0 : 0 ≤ a) (a1 : a < 18446744073709551616) (a8 : a % 8 = 0) (u0 : 0 ≤ u) (u1 : u < 18446744073709551616) : CellsH (setL a u m) := by
  refine ⟨setL_rises h.mr a u, fun x hx => ?_⟩
  rw [setL_setF h.mr] at hx
  rcases mem_setF hx with h1 | ⟨rfl, h2⟩
  · exact h.mp x h1
  · exact ⟨a0, a1, a8, by dsimp only; omega, u1⟩
end Go.Proofs.Ytjhfglpgpicmiaa.F
end
section
namespace Go.Proofs.Ytjhfglpgpicmiaa.F
open Go.RowKit Go.Shelf Go.Proofs.YtjhfglpgpicmiaaW.PrintWords Go.Proofs.YtjhfglpgpicmiaaW.PrintLast Go.Proofs.YtjhfglpgpicmiaaW.PrintMore
set_option linter.unusedVariables false
set_option linter.unusedSimpArgs false
def pokeN (m : List SC) (a b : Nat) : List SC := setL ((a - a % 8 : Nat) : Int) ((putIn (wN m (a - a % 8)) (a % 8) 1 b : Nat) : Int) m
theorem CellsH.putW {m : List SC} (h : CellsH m) {a o n v : Nat} (ha : a < 18446744073709551616) (h8 : a % 8 = 0) (ho : o + n ≤ 8) : CellsH (setL (a : Int) ((putIn (wN m a) o n v : Nat) : Int) m) := by
  have := putIn_lt (v := v) (h.wN_lt a) ho
  rw [p256_8] at this
  exact h.set (by omega) (by omega) (by omega) (by omega) (by omega)
theorem CellsH.poke {m : List SC} (h : CellsH m) {a b : Nat} (ha : a < 18446744073709551616) : CellsH (pokeN m a b) := h.putW (by omega) (by omega) (by omega)
def pokes : List SC → Nat → Nat → Nat → List SC
  | m, _, _, 0 => m
  | m, a, v, n + 1 => pokes (pokeN m a (v % 256)) (a + 1) (v / 256) n
theorem CellsH.pokes : ∀ {n : Nat} {m : List SC} (h : CellsH m) {a v : Nat}, a + n ≤ 18446744073709551616 → CellsH (pokes m a v n)
  | 0, _, h, _, _, _ => h
  | n + 1, m, h, a, v, ha => CellsH.pokes (h.poke (by omega)) (by omega)
theorem pokeN_length (m : List SC) (a b : Nat) : (pokeN m a b).length ≤ m.length + 1 := setL_length _ _ _
theorem askS_ok {l : List SM} {a need : Int} (a0 : 0 ≤ a) (a1 : a < 18446744073709551616) : ∀ {r : Nat} {i : Int}, 0 ≤ i → i + (r : Int) ≤ 8 → (askS l a need r i).1 = 0 → askS l a need r i = (0, 0) ∧ ∀ j : Int, i ≤ j → j < i + r → a + j < 18446744073709551616 ∧ faultS l (a + j) need = 0
  | 0, i, _, _, _ => ⟨rfl, fun j h1 h2 => by omega⟩
  | r + 1, i, i0, hb, h => by
    unfold askS at h ⊢
    by_cases h1 : (a + i) % 18446744073709551616 < a
    · rw [if_pos h1] at h
      cases h
    rw [if_neg h1] at h ⊢
    have e : (a + i) % 18446744073709551616 = a + i := by omega
    rw [e] at h ⊢
    by_cases h2 : faultS l (a + i) need = 0
    · rw [if_pos h2] at h ⊢
      obtain ⟨h3, h4⟩ := askS_ok a0 a1 (by omega) (by omega) h
      refine ⟨h3, fun j j1 j2 => ?_⟩
      by_cases hj : j = i
      · subst hj
        exact ⟨by omega, h2⟩
      exact h4 j (by omega) (by omega)
    rw [if_neg h2] at h
    exact absurd h h2
def storeS (l : List SM) (m : List SC) (a n v : Int) : List SM × List SC × Int × Int :=
  if n < 1 ∨ n > 8 then (l, m, 0, 0) else if (askS l a 2 n.toNat 0).1 = 0 then (l, pokes m a.toNat v.toNat n.toNat, 0, 0) else (l, m, (askS l a 2 n.toNat 0).1, (askS l a 2 n.toNat 0).2)
end Go.Proofs.Ytjhfglpgpicmiaa.F
end
section
namespace Go.Proofs.Ytjhfglpgpicmiaa.F
open Go.RowKit Go.Shelf Go.Proofs.YtjhfglpgpicmiaaW.PrintWords Go.Proofs.YtjhfglpgpicmiaaW.PrintLast Go.Proofs.YtjhfglpgpicmiaaW.PrintMore
set_option linter.unusedVariables false
set_option linter.unusedSimpArgs false
theorem faultS_has {l : List SM} {a need : Int} (h : faultS l a need = 0) : has mpK (a / 16384) l = true := by
  unfold faultS at h
  by_cases h1 : has mpK (a / 16384) l = true
  · exact h1
  rw [if_neg h1] at h
  omega
theorem mem_setL {m : List SC} (hr : Rises clK m) {a u : Int} {x : SC} (h : x ∈ setL a u m) : x ∈ m ∨ (x = ⟨a, u⟩ ∧ u ≠ 0) := by
  rw [setL_setF hr] at h
  exact mem_setF h
theorem pokes_length : ∀ {n : Nat} (m : List SC) (a v : Nat), (pokes m a v n).length ≤ m.length + n
  | 0, m, _, _ => Nat.le_refl _
  | n + 1, m, a, v => by
    have h1 := pokes_length (n := n) (pokeN m a (v % 256)) (a + 1) (v / 256)
    have h2 := pokeN_length m a (v % 256)
    unfold pokes
    omega
theorem mem_pokes {x : SC} : ∀ {n : Nat} {m : List SC} (h : CellsH m) {a v : Nat}, a + n ≤ 18446744073709551616 → x ∈ pokes m a v n → x ∈ m ∨ ∃ j : Nat, j < n ∧ x.f0 = ((a + j - (a + j) % 8 : Nat) : Int)
  | 0, m, h, a, v, _, hx => Or.inl hx
  | n + 1, m, h, a, v, ha, hx => by
    unfold pokes at hx
    rcases mem_pokes (h.poke (by omega)) (by omega) hx with h1 | ⟨j, hj, h1⟩
    · rcases mem_setL h.mr h1 with h2 | ⟨h2, _⟩
      · exact Or.inl h2
      · exact Or.inr ⟨0, by omega, by rw [h2]; rfl⟩
    · exact Or.inr ⟨j + 1, by omega, by rw [h1]; congr 1; omega⟩
theorem FitH.pokes {l : List SM} {m : List SC} (h : FitH l m) {a n v : Nat} (hn : m.length + n ≤ 131072) (ha : a + n ≤ 18446744073709551616) (hp : ∀ j, j < n → has mpK (((a + j : Nat) : Int) / 16384) l = true) : FitH l (pokes m a v n) := by
  have hc := CellsH.pokes h.cells (v := v) ha
  have hlen := pokes_length (n := n) m a v
  refine ⟨h.lr, h.ln, h.lp, hc.mr, by omega, fun x hx => ?_⟩
  have h1 := hc.mp x hx
  refine ⟨h1.1, h1.2.1, h1.2.2.1, h1.2.2.2.1, h1.2.2.2.2, ?_⟩
  rcases mem_pokes h.cells ha hx with h2 | ⟨j, hj, h2⟩
  · exact (h.mp x h2).2.2.2.2.2
  · rw [h2]
    have h3 := hp j hj
    have e : (((a + j - (a + j) % 8 : Nat) : Int)) / 16384 = ((a + j : Nat) : Int) / 16384 := by omega
    rw [e]
    exact h3
theorem FitH.store {l : List SM} {m : List SC} (h : FitH l m) {a n v : Int} (a0 : 0 ≤ a) (a1 : a < 18446744073709551616) (hm : m.length ≤ 131000) : FitH (storeS l m a n v).1 (storeS l m a n v).2.1 := by
  unfold storeS
  split
  · exact h
  rename_i hn
  split
  · rename_i h3
    obtain ⟨_, h4⟩ := askS_ok a0 a1 (Int.le_refl 0) (by omega) h3
    have h5 := (h4 (n - 1) (by omega) (by omega)).1
    refine h.pokes (by omega) (by omega) (fun j hj => ?_)
    have h6 := faultS_has (h4 (j : Int) (by omega) (by omega)).2
    rwa [show a + (j : Int) = ((a.toNat + j : Nat) : Int) by omega] at h6
  · exact h
end Go.Proofs.Ytjhfglpgpicmiaa.F
end
section
namespace Go.Proofs.Ytjhfglpgpicmiaa.F
open Go.RowKit Go.Proofs.YtjhfglpgpicmiaaW.PrintWords Go.Proofs.YtjhfglpgpicmiaaW.PrintLast Go.Proofs.YtjhfglpgpicmiaaW.PrintMore
attribute [local go_sem] max2_int min2_int max_two min_two max_three min_three max_four min_four
set_option linter.unusedVariables false
set_option linter.unusedSimpArgs false

def ferryref03_inside.f (a0 : Int) (a1 : Int) (a2 : Int) : Option (Bool) := if a0 ≥ a1 then (some (decide ((IntKind.u64.wrap (a0 - a1)) < a2))) else (some false)
set_option maxHeartbeats 8000000 in
set_option maxRecDepth 100000 in
theorem ferryref03_inside.calls (a0 : Int) (a1 : Int) (a2 : Int) (r : Bool) (w : World) (h : ferryref03_inside.f a0 a1 a2 = some r) :
    Calls Try.prog 82 #[.int .u64 a0, .int .u64 a1, .int .u64 a2] w fun e w' => e = .returned (.bool r) ∧ Drawn0 w w' := by
  have H : (if a0 ≥ a1 then (some (decide ((IntKind.u64.wrap (a0 - a1)) < a2))) else (some false)) = some r := h
  clear h
  by_cases c4 : a0 ≥ a1
  · rw [if_pos c4] at H
    have c4b0 : decide (a1 ≤ a0) = true := decide_eq_true c4
    clear c4
    obtain rfl := Option.some.inj H
    go_enter Try.func82, Try.ntmps82
    go_wp2
    go_ret
    exact ⟨by first | rfl | (simp; done) | (simp [*]; done), by repeat (first | exact Drawn0.refl _ | apply Drawn0.step)⟩
  rw [if_neg c4] at H
  have c4b0 : decide (a1 ≤ a0) = false := decide_eq_false c4
  clear c4
  obtain rfl := Option.some.inj H
  go_enter Try.func82, Try.ntmps82
  go_wp2
  go_ret
  exact ⟨by first | rfl | (simp; done) | (simp [*]; done), by repeat (first | exact Drawn0.refl _ | apply Drawn0.step)⟩

end Go.Proofs.Ytjhfglpgpicmiaa.F
end
