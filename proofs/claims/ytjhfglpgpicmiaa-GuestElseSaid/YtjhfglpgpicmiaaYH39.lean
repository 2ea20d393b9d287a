import Derived.Below
import Derived.Deep.Draws
import Derived.Deep.AppendLies
import Derived.Maps.AppendAt
import Derived.OwnWalk
import Derived.Laws.BytesArg
import Derived.Laws.MakeOwn
import Derived.Laws.OwnMore
import Derived.Deep.OwnRows
import Derived.Tactics
import Derived.Lib.ConvBytes
import Derived.Laws.Slices
import Derived.WalkKit
import Derived.KernelRfl
import Derived.RowKit3
import Derived.Deep.LoopGhost
import Derived.Deep.QuietTactic
import Derived.BigQuiet
import Derived.WideLaws
import Derived.Deep.DeepCutAuto
import Derived.Deep.CutBlock
import Derived.Deep.RegionHeld3
import Derived.Laws.Rows
import Derived.Lib.AppendStr
import Derived.ArgAppend
import Derived.Laws.IdiomCopy
import Derived.RowKit
import Derived.OrdersHeld
import Derived.Laws.BitsLemmas
import Derived.Laws.StructEq
import Derived.OwnWalkIn
import Derived.WalkSmall
import Derived.Laws.ResultCell
import Derived.ProofKit
import Derived.Lib.Hide
import Derived.Shelf.RegionOpen
import Derived.Shelf.Abstract
import Derived.Lib.SliceRun
import Derived.Shelf.Spec.SlicesInsertGrow
import Derived.OpenShut
import Derived.Deep.Slices
import Derived.SizedLaws
import Derived.RangeFuncNested
import Derived.RangeFuncBound
import Derived.RangeFuncCalls
import Derived.RangeFuncLeaves
import Derived.RangeFuncWrites
import Derived.TacticsInMore
import Derived.LoopNIn
import Derived.LoopIn
import Derived.Stop.RegionWithIn
import Derived.Test.YtjhfglpgpicmiaaZF0
import Derived.Test.YtjhfglpgpicmiaaYA0
import Derived.Test.YtjhfglpgpicmiaaYA9
import Derived.Test.YtjhfglpgpicmiaaYA11
import Derived.Test.YtjhfglpgpicmiaaYA13
import Derived.Test.YtjhfglpgpicmiaaYA14HGuest4
import Derived.Test.YtjhfglpgpicmiaaYA16HGuest7
import Derived.Test.YtjhfglpgpicmiaaYA19
import Derived.Test.YtjhfglpgpicmiaaYC21
import Derived.Test.YtjhfglpgpicmiaaYH37
import Derived.Test.YtjhfglpgpicmiaaYH38FGuestProtect
section
namespace Go.Proofs.Ytjhfglpgpicmiaa.F
open Go.RowKit Go.Shelf Go.Proofs.YtjhfglpgpicmiaaW.PrintWords Go.Proofs.YtjhfglpgpicmiaaW.PrintLast Go.Proofs.YtjhfglpgpicmiaaW.PrintMore
set_option linter.unusedVariables false
set_option linter.unusedSimpArgs false
def givG (a n q : Int) (x : SP) : SP := if decide (a ≤ x.f0 ∧ x.f0 - a < n) = true then ⟨x.f0, q⟩ else x
theorem givG_key (a n q : Int) (x : SP) : pgK (givG a n q x) = pgK x := by
  unfold givG
  split <;> rfl
def cntG (p : List SP) (a n : Int) : Nat := (p.filter (fun x => decide (a ≤ x.f0 ∧ x.f0 - a < n))).length
def protG (l : List SM) (m : List SC) (b : Int) (p : List SP) (a n q : Int) : List SM × List SC × List SP × Int :=
  if wrongG a n q = true then (l, m, p, 22) else if (cntG p a n : Int) < n then (l, m, p, 12) else (l, m, p.map (givG a n q), 0)
theorem guest_Protect_l0 (l : List SM) (m : List SC) (b : Int) (p : List SP) (q : Int) {T d : List SP} {N : Nat} (hN : N ≤ d.length) (hlen : T.length + d.length ≤ 1000000) : ∀ (r k j : Nat), j + r = N → r < k →
    guest_Protect.l0 k q (T.length : Int) (T ++ ((d.take j).map (fun x => (⟨x.f0, q⟩ : SP)) ++ d.drop j)) (N : Int) (j : Int) l m b p = some (l, m, b, T ++ ((d.take N).map (fun x => (⟨x.f0, q⟩ : SP)) ++ d.drop N), 0)
  | r, 0, j, _, h => by omega
  | 0, k + 1, j, hj, h => by
    obtain rfl : j = N := by omega
    unfold guest_Protect.l0
    rw [if_neg (by omega)]
  | r + 1, k + 1, j, hj, h => by
    have hjd : j < d.length := by omega
    have hml := mixF_len (fun x => (⟨x.f0, q⟩ : SP)) d j
    have hmg := mixF_get (fun x => (⟨x.f0, q⟩ : SP)) d j hjd
    have hms := mixF_set (fun x => (⟨x.f0, q⟩ : SP)) d j hjd
    unfold guest_Protect.l0
    generalize (d.take j).map (fun x => (⟨x.f0, q⟩ : SP)) ++ d.drop j = x at *
    have hw : wrap64 ((T.length : Int) + (j : Int)) = ((T.length + j : Nat) : Int) := by unfold wrap64; omega
    have hw2 : wrap64 ((j : Int) + 1) = ((j + 1 : Nat) : Int) := by unfold wrap64; omega
    have hg : (T ++ x)[T.length + j]'(by rw [List.length_append]; omega) = d[j] := by
      rw [List.getElem_append_right (Nat.le_add_right ..)]
      simp only [Nat.add_sub_cancel_left]
      exact hmg _
    rw [if_pos (by omega), hw, hw2, if_pos (by omega), if_pos (by rw [List.length_append]; omega), pg_getR (by rw [List.length_append]; omega), hg, Int.toNat_natCast, List.set_append_right _ _ (by omega), Nat.add_sub_cancel_left, hms]
    exact guest_Protect_l0 l m b p q hN hlen r k (j + 1) (by omega) (by omega)
theorem guest_Protect_spec (l : List SM) (m : List SC) (b : Int) {p : List SP} (P : PagesG p) {a n q : Int} (a0 : 0 ≤ a) (a1 : a < 4294967296) (n0 : 0 ≤ n) (n1 : n < 4294967296) (q0 : -9223372036854775808 ≤ q) (q1 : q ≤ 9223372036854775807) (k : Nat) (hk : 300 < k) :
    guest_Protect.f k l m b p a n q = some ((protG l m b p a n q).1, (protG l m b p a n q).2.1, b, (protG l m b p a n q).2.2.1, (protG l m b p a n q).2.2.2) := by
  have hpn := P.pn
  obtain ⟨k, rfl⟩ : ∃ z, k = z + 1 := ⟨k - 1, by omega⟩
  unfold guest_Protect.f protG
  rw [gwrong_some, gwrongS_eq a0 a1 n0 n1 q0 q1, Option.bind_some]
  by_cases h : wrongG a n q = true
  · rw [if_pos h, if_pos h]
  rw [if_neg h, if_neg h, at_f (by omega) P.pr, Option.bind_some]
  unfold api_Page_48.f
  rw [if_pos (by omega), Option.bind_some]
  dsimp only
  have hn := wrongG_no n0 h
  have hL := lowB_le pgK a p
  have hlow := take_lowB pgK a p
  have hge := drop_lowB pgK a P.pr
  generalize lowB pgK a p = i at *
  have hsplit : p.take i ++ p.drop i = p := List.take_append_drop i p
  have hdr : Rises pgK (p.drop i) := rises_right pgK (l := p.take i) (by rw [hsplit]; exact P.pr)
  have hdl : (p.drop i).length = p.length - i := List.length_drop ..
  have hget : ∀ (j : Nat) (hj : i + j < p.length) (hj2 : j < (p.drop i).length), p[i + j] = (p.drop i)[j] := fun j hj hj2 => (List.getElem_drop ..).symm
  have hdd : p.drop (i + n.toNat) = (p.drop i).drop n.toNat := (List.drop_drop ..).symm
  have hj0 : ∀ t, guest_Protect.j0 (k + 1) n q (i : Int) p t l m b p = if t = true then some (l, m, b, p, 12) else (if 0 ≤ (i : Int) then (if (i : Int) ≤ wrap64 ((i : Int) + wrap64 n) then (if wrap64 ((i : Int) + wrap64 n) ≤ (p.length : Int) then guest_Protect.l0 k q (i : Int) p (((p.take (wrap64 ((i : Int) + wrap64 n)).toNat).drop (i : Int).toNat).length : Int) 0 l m b p else none) else none) else none) := fun t => rfl
  have hw : wrap64 ((i : Int) + wrap64 n) = (i : Int) + n := by unfold wrap64; omega
  have hw2 : wrap64 ((i : Int) + n - 1) = (i : Int) + n - 1 := by unfold wrap64; omega
  rw [show wrap64 ((p.length : Int) - (i : Int)) % 4294967296 = ((p.drop i).length : Int) by unfold wrap64; omega, show (a + (n - 1) % 4294967296) % 4294967296 = a + n - 1 by omega]
  have FIN : n.toNat ≤ (p.drop i).length → guest_Protect.j0 (k + 1) n q (i : Int) p false l m b p = some (l, m, b, p.take i ++ (((p.drop i).take n.toNat).map (fun x => (⟨x.f0, q⟩ : SP)) ++ (p.drop i).drop n.toNat), 0) := fun hle => by
    have hT : (p.take i).length = i := by rw [List.length_take]; omega
    have hl0 := guest_Protect_l0 l m b p q (T := p.take i) (d := p.drop i) hle (by omega) n.toNat k 0 (by omega) (by omega)
    rw [hT, List.take_zero, List.map_nil, List.nil_append, List.drop_zero, hsplit] at hl0
    rw [hj0, if_neg (by decide), hw, if_pos (by omega), if_pos (by omega), if_pos (by omega), show ((p.take ((i : Int) + n).toNat).drop (i : Int).toNat).length = n.toNat by rw [List.length_drop, List.length_take]; omega]
    exact hl0
  have hcnt : cntG p a n = ((p.drop i).filter (fun x => decide (a ≤ x.f0 ∧ x.f0 - a < n))).length := by
    unfold cntG
    conv => lhs; rw [← hsplit]
    rw [List.filter_append, filter_none (l := p.take i) (fun x hx => ?_), List.nil_append]
    have := hlow x hx
    have e : pgK x = x.f0 := rfl
    exact decide_eq_false (by omega)
  have hmap : p.map (givG a n q) = p.take i ++ (p.drop i).map (givG a n q) := by
    conv => lhs; rw [← hsplit]
    rw [List.map_append]
    congr 1
    refine (List.map_congr_left (fun x hx => ?_)).trans (List.map_id _)
    have := hlow x hx
    have e : pgK x = x.f0 := rfl
    unfold givG
    rw [decide_eq_false (by omega), if_neg (by decide)]
    rfl
  rw [hcnt, hmap, hw, hw2]
  have hL2 : i < p.length ↔ 0 < (p.drop i).length := by omega
  have hL3 : (i : Int) + n - 1 < (p.length : Int) ↔ n ≤ ((p.drop i).length : Int) := by omega
  have p0 : ∀ (hj : 0 < (p.drop i).length), rd_T39 p (i : Int) = (p.drop i)[0] := fun hj => by
    rw [pg_getR (by omega), ← hget 0 (by omega) hj]
    rfl
  have p1 : ∀ (hj : n.toNat - 1 < (p.drop i).length), rd_T39 p ((i : Int) + n - 1) = (p.drop i)[n.toNat - 1] := fun hj => by
    rw [show (i : Int) + n - 1 = ((i + (n.toNat - 1) : Nat) : Int) by omega, pg_getR (by omega), ← hget (n.toNat - 1) (by omega) hj]
  have hN : ((n.toNat : Nat) : Int) = n := by omega
  generalize rd_T39 p (i : Int) = x0 at p0 ⊢
  generalize rd_T39 p ((i : Int) + n - 1) = x1 at p1 ⊢
  have BAD : guest_Protect.j0 (k + 1) n q (i : Int) p true l m b p = some (l, m, b, p, 12) := rfl
  generalize p.drop i = d at *
  have hr2 := lowB_le pgK (a + n) d
  have hlo := rises_low (a := a) hdr hge
  have hfr := filter_run (fun x => decide (a ≤ x.f0 ∧ x.f0 - a < n)) d (lowB pgK (a + n) d) hr2 (fun j hj => by
    have h1 := hlo j hj
    have e : pgK d[j] = d[j].f0 := rfl
    by_cases h2 : j < lowB pgK (a + n) d
    · have h3 := lowB_lt pgK (a + n) d j hj h2
      rw [decide_eq_true h2]
      exact decide_eq_true (by omega)
    have h3 := lowB_ge pgK (a + n) hdr j hj (by omega)
    rw [decide_eq_false h2]
    exact decide_eq_false (by omega))
  rw [hfr]
  by_cases hc : (lowB pgK (a + n) d : Int) < n
  · rw [if_pos hc]
    by_cases hlen : (d.length : Int) < n
    · rw [if_pos hlen, BAD]
    have h2 := lowB_ge pgK (a + n) hdr (n.toNat - 1) (by omega) (by omega)
    have e : pgK (d[n.toNat - 1]'(by omega)) = (d[n.toNat - 1]'(by omega)).f0 := rfl
    rw [if_neg hlen, if_pos (by omega), if_pos (by omega)]
    by_cases hx : x0.f0 = a
    · rw [if_pos hx, if_pos (by omega), if_pos (hL3.2 (by omega)), p1 (by omega), bne_iff_ne.2 (show (d[n.toNat - 1]'(by omega)).f0 ≠ a + n - 1 by omega), BAD]
    rw [if_neg hx, BAD]
  rw [if_neg hc]
  have hup : ∀ (j : Nat) (hj : j < d.length), j < n.toNat → d[j].f0 ≤ a + (j : Int) := fun j hj h1 => by
    have h2 := lowB_lt pgK (a + n) d (n.toNat - 1) (by omega) (by omega)
    have e : pgK (d[n.toNat - 1]'(by omega)) = (d[n.toNat - 1]'(by omega)).f0 := rfl
    have h3 := rises_low (a := d[j].f0) (l := d.drop j) (rises_right pgK (l := d.take j) (by rw [List.take_append_drop]; exact hdr)) (fun x hx => by
      obtain ⟨z, hz, rfl⟩ := List.getElem_of_mem hx
      rw [List.length_drop] at hz
      rw [List.getElem_drop]
      rcases Nat.eq_zero_or_pos z with h0 | h0
      · subst h0
        exact Int.le_refl _
      · exact Int.le_of_lt (rises_get pgK hdr j (j + z) (by omega) (by omega))) (n.toNat - 1 - j) (by rw [List.length_drop]; omega)
    rw [List.getElem_drop] at h3
    have e2 : d[j + (n.toNat - 1 - j)]'(by omega) = d[n.toNat - 1]'(by omega) := by
      congr 1
      omega
    rw [e2] at h3
    omega
  have hlo2 : ∀ (j : Nat) (hj : j < d.length), a + (j : Int) ≤ d[j].f0 := hlo
  have hx0 := hup 0 (by omega) (by omega)
  have hx0' := hlo2 0 (by omega)
  have hx1 := hup (n.toNat - 1) (by omega) (by omega)
  have hx1' := hlo2 (n.toNat - 1) (by omega)
  rw [if_neg (by omega), if_pos (by omega), if_pos (by omega), if_pos (by rw [p0 (by omega)]; omega), if_pos (by omega), if_pos (hL3.2 (by omega)), p1 (by omega), bne_eq_false_iff_eq.2 (by omega), FIN (by omega)]
  have hd : d.map (givG a n q) = (d.take n.toNat).map (fun x => (⟨x.f0, q⟩ : SP)) ++ d.drop n.toNat := by
    conv => lhs; rw [← List.take_append_drop n.toNat d]
    rw [List.map_append]
    congr 1
    · refine List.map_congr_left (fun x hx => ?_)
      obtain ⟨j, hj, rfl⟩ := List.getElem_of_mem hx
      rw [List.length_take] at hj
      have h1 := hup j (by omega) (by omega)
      have h2 := hlo2 j (by omega)
      rw [List.getElem_take]
      unfold givG
      rw [decide_eq_true (by omega), if_pos rfl]
    · refine (List.map_congr_left (fun x hx => ?_)).trans (List.map_id _)
      obtain ⟨j, hj, rfl⟩ := List.getElem_of_mem hx
      rw [List.length_drop] at hj
      have h2 := hlo2 (n.toNat + j) (by omega)
      rw [List.getElem_drop]
      unfold givG
      rw [decide_eq_false (by omega), if_neg (by decide)]
      rfl
  rw [hd]
end Go.Proofs.Ytjhfglpgpicmiaa.F
end
section
namespace Go.Proofs.Ytjhfglpgpicmiaa.F
open Go.RowKit Go.Shelf Go.Proofs.YtjhfglpgpicmiaaW.PrintWords Go.Proofs.YtjhfglpgpicmiaaW.PrintLast Go.Proofs.YtjhfglpgpicmiaaW.PrintMore
set_option linter.unusedVariables false
set_option linter.unusedSimpArgs false
theorem FitG.protect {l : List SM} {m : List SC} {b : Int} {p : List SP} (h : FitG l m b p) {a n q : Int} (n0 : 0 ≤ n) : FitG (protG l m b p a n q).1 (protG l m b p a n q).2.1 b (protG l m b p a n q).2.2.1 := by
  unfold protG
  by_cases hw : wrongG a n q = true
  · rw [if_pos hw]
    exact h
  rw [if_neg hw]
  have hn := wrongG_no n0 hw
  split
  · exact h
  have hk : ∀ x, (givG a n q x).f0 = x.f0 := fun x => givG_key a n q x
  have hold : ∀ x ∈ p, ∃ x' ∈ p.map (givG a n q), x'.f0 = x.f0 := fun x hx => ⟨_, List.mem_map.2 ⟨x, hx, rfl⟩, hk x⟩
  refine ⟨h.h, h.base, ⟨by rw [List.length_map]; exact h.pages.pn, rises_map pgK _ (givG_key a n q) h.pages.pr, fun x hx => ?_⟩, fun x hx => ?_, fun y hy ha hc => ?_, fun c hc ha hd => ?_⟩
  · obtain ⟨x, hx0, rfl⟩ := List.mem_map.1 hx
    have hp := h.pages.pp x hx0
    rw [hk]
    refine ⟨hp.1, hp.2.1, ?_⟩
    unfold givG
    split
    · exact hn.2.2
    · exact hp.2.2
  · obtain ⟨x, hx0, rfl⟩ := List.mem_map.1 hx
    rw [hk]
    exact h.pm x hx0
  · obtain ⟨h3, x, hx, e⟩ := h.lm y hy ha hc
    obtain ⟨x', hx', e'⟩ := hold x hx
    exact ⟨h3, x', hx', by rw [e', e]⟩
  · obtain ⟨x, hx, e⟩ := h.cm c hc ha hd
    obtain ⟨x', hx', e'⟩ := hold x hx
    exact ⟨x', hx', by rw [e', e]⟩
end Go.Proofs.Ytjhfglpgpicmiaa.F
end
