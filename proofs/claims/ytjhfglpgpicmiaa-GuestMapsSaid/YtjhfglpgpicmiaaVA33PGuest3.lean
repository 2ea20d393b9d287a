import Derived.Test.YtjhfglpgpicmiaaVZF0
import Derived.Test.YtjhfglpgpicmiaaVA0
import Derived.Test.YtjhfglpgpicmiaaVA3
import Derived.Test.YtjhfglpgpicmiaaVA9
import Derived.Test.YtjhfglpgpicmiaaVA11
import Derived.Test.YtjhfglpgpicmiaaVA14
import Derived.Test.YtjhfglpgpicmiaaVA16
import Derived.Test.YtjhfglpgpicmiaaVA20PGuest1
import Derived.Test.YtjhfglpgpicmiaaVA21HGuest4
import Derived.Test.YtjhfglpgpicmiaaVA23HGuest7
import Derived.Test.YtjhfglpgpicmiaaVA24
import Derived.Test.YtjhfglpgpicmiaaVA27PGuest2
import Derived.Test.YtjhfglpgpicmiaaVA28HGuest9
import Derived.Test.YtjhfglpgpicmiaaVA29
import Derived.Test.YtjhfglpgpicmiaaVA30FGuestProtect
import Derived.Test.YtjhfglpgpicmiaaVA31FFerryref04Unmap
import Derived.Test.YtjhfglpgpicmiaaVA32FFerryref04Protect
section
namespace Go.Proofs.Ytjhfglpgpicmiaa.F
open Go.RowKit Go.Shelf Go.Proofs.YtjhfglpgpicmiaaW.PrintWords Go.Proofs.YtjhfglpgpicmiaaW.PrintLast Go.Proofs.YtjhfglpgpicmiaaW.PrintMore
set_option linter.unusedVariables false
set_option linter.unusedSimpArgs false
def unStepN (p2 : List SP) (b : Int) (st : List SM × List SC) (x : SP) : List SM × List SC :=
  if usedN p2 b (hoN b x.f0) = true then st else ((unmapS st.1 st.2 (hoN b x.f0) 1).1, (unmapS st.1 st.2 (hoN b x.f0) 1).2.1)
def unmapG (l : List SM) (m : List SC) (b : Int) (p : List SP) (a n : Int) : List SM × List SC × List SP × Int :=
  if wrongG a n 0 = true then (l, m, p, 22)
  else ((p.foldl (unStepN (delS p a n) b) (l, clearS m (b + a * 4096) (n * 4096))).1, (p.foldl (unStepN (delS p a n) b) (l, clearS m (b + a * 4096) (n * 4096))).2, delS p a n, 0)
theorem foldl_same {α β : Type} {f g : β → α → β} : ∀ {l : List α} {s : β}, (∀ x ∈ l, ∀ s, f s x = g s x) → l.foldl f s = l.foldl g s
  | [], s, _ => rfl
  | x :: l, s, h => by
    rw [List.foldl_cons, List.foldl_cons, h x (List.mem_cons_self ..)]
    exact foldl_same (fun y hy => h y (List.mem_cons_of_mem _ hy))
theorem gUnmapS_eq {l : List SM} {m : List SC} {b : Int} {p : List SP} (hb : BaseG b) (P : PagesG p) {a n : Int} (a0 : 0 ≤ a) (a1 : a < 4294967296) (n0 : 0 ≤ n) (n1 : n < 4294967296) : gUnmapS l m b p a n = unmapG l m b p a n := by
  unfold gUnmapS unmapG
  rw [gwrongS_eq a0 a1 n0 n1 (by decide) (by decide)]
  by_cases hw : wrongG a n 0 = true
  · rw [if_pos hw, if_pos hw]
  rw [if_neg hw, if_neg hw]
  have hn := wrongG_no n0 hw
  have D := delS_P P a n
  unfold unmapLoop
  rw [dropC_eq hb m a0 hn.1 hn.2.1, foldl_same (g := unStepN (delS p a n) b) (fun x hx s => ?_)]
  have hx2 := P.pp x hx
  have hm := hoN_mem hb hx2.1 hx2.2.1
  unfold unmapStep unStepN
  rw [hoS_eq hb hx2.1 hx2.2.1, usedS_eq hb D.pr (fun x hx => ⟨(D.pp x hx).1, (D.pp x hx).2.1⟩) hm.1 hm.2]
theorem unStepN_fit {p2 : List SP} {b : Int} {st : List SM × List SC} (h : FitH st.1 st.2) (x : SP) : FitH (unStepN p2 b st x).1 (unStepN p2 b st x).2 := by
  unfold unStepN
  split
  · exact h
  · exact h.unmap _ _
theorem unfold_fit {p2 : List SP} {b : Int} : ∀ (p : List SP) {st : List SM × List SC}, FitH st.1 st.2 → FitH (p.foldl (unStepN p2 b) st).1 (p.foldl (unStepN p2 b) st).2
  | [], _, h => h
  | x :: p, _, h => unfold_fit p (unStepN_fit h x)
theorem ref04_Unmap_l0 (l0 : List SM) (m0 : List SC) {b : Int} {p d : List SP} (hb : BaseG b) (P : PagesG p) (D : PagesG d) : ∀ (k i : Nat) (l : List SM) (m : List SC), FitH l m → i ≤ p.length → (p.length - i) + 132000 < k →
    ferryref04_Unmap.l0 k (i : Int) l m b d l0 m0 b p = some (((p.drop i).foldl (unStepN d b) (l, m)).1, ((p.drop i).foldl (unStepN d b) (l, m)).2, b, d, 0)
  | 0, i, _, _, _, _, h => by omega
  | k + 1, i, l, m, hF, hi, h => by
    have h0 := hb.b0
    have h1 := hb.b1
    have hpn := P.pn
    have hdn := D.pn
    have hln := hF.ln
    have hmn := hF.mn
    unfold ferryref04_Unmap.l0
    by_cases hlt : i < p.length
    · have hw : wrap64 ((i : Int) + 1) = ((i + 1 : Nat) : Int) := by unfold wrap64; omega
      have hx := P.pp _ (List.getElem_mem hlt)
      have e : ferryref04_hostPage.f l m b d p[i].f0 = some (hoN b p[i].f0) := by
        unfold ferryref04_hostPage.f hoN
        rw [Int.tdiv_eq_ediv_of_nonneg h0, u64w (b / 16384), u64w p[i].f0, Int.tdiv_eq_ediv_of_nonneg (by omega), u64w (_ / 4), u64w]
        congr 1
        omega
      have hho : 0 ≤ hoN b p[i].f0 ∧ hoN b p[i].f0 ≤ 18446744073709551615 := by unfold hoN; omega
      rw [if_pos (by omega), if_pos (by omega), pg_getR hlt, hw, e, Option.bind_some, ref04_used l m hb (fun x hx => ⟨(D.pp x hx).1, (D.pp x hx).2.1⟩) (by omega) _ k (by omega), Option.bind_some, List.drop_eq_getElem_cons hlt, List.foldl_cons]
      unfold unStepN
      by_cases hu : usedN d b (hoN b p[i].f0) = true
      · rw [if_pos hu, if_pos hu]
        exact ref04_Unmap_l0 l0 m0 hb P D k (i + 1) l m hF hlt (by omega)
      rw [if_neg hu, if_neg hu, ref_Unmap l m hF.wl hF.wm (by omega) (by omega) hho.1 hho.2 (by omega) k (by omega), Option.bind_some]
      exact ref04_Unmap_l0 l0 m0 hb P D k (i + 1) _ _ (hF.unmap _ 1) hlt (by omega)
    rw [if_neg (by omega), List.drop_eq_nil_of_le (by omega)]
    rfl
theorem ref04_Place {l : List SM} {m : List SC} {b : Int} {p : List SP} (hb : BaseG b) {a : Int} (a0 : 0 ≤ a) (a1 : a < 4294967296) : ferryref04_Place.f l m b p a = some (b + a) := by
  have h0 := hb.b0
  have h1 := hb.b1
  unfold ferryref04_Place.f
  rw [u64w a, u64w]
  congr 1
  omega
theorem ref04_Unmap {l : List SM} {m : List SC} {b : Int} {p : List SP} (hF : FitH l m) (hb : BaseG b) (P : PagesG p) {a n : Int} (a0 : 0 ≤ a) (a1 : a < 4294967296) (n0 : 0 ≤ n) (n1 : n < 4294967296) (k : Nat) (hk : 1500000 < k) :
    ferryref04_Unmap.f k l m b p a n = some ((unmapG l m b p a n).1, (unmapG l m b p a n).2.1, b, (unmapG l m b p a n).2.2.1, (unmapG l m b p a n).2.2.2) := by
  have h0 := hb.b0
  have h1 := hb.b1
  have hpn := P.pn
  have hmn := hF.mn
  unfold ferryref04_Unmap.f unmapG
  rw [ref04_wrong a0 a1 n0 n1, Option.bind_some]
  by_cases hw : wrongG a n 0 = true
  · rw [if_pos hw, if_pos hw]
  rw [if_neg hw, if_neg hw]
  have hn := wrongG_no n0 hw
  have D := delS_P P a n
  rw [ref04_without l m b p (by omega) a n k (by omega), Option.bind_some, show (a * 4096) % 4294967296 = a * 4096 by omega, ref04_Place hb (by omega) (by omega), Option.bind_some, u64w n, u64w, show n % 18446744073709551616 * 4096 % 18446744073709551616 = n * 4096 by omega, ref_Clear_ge l m (by omega) _ _ k (by omega), Option.bind_some]
  have := ref04_Unmap_l0 l m hb P D k 0 l (clearS m (b + a * 4096) (n * 4096)) (hF.clear (by omega) (by omega)) (Nat.zero_le _) (by omega)
  rw [List.drop_zero, show ((0 : Nat) : Int) = 0 from rfl] at this
  exact this
def givG (a n q : Int) (x : SP) : SP := if decide (a ≤ x.f0 ∧ x.f0 - a < n) = true then ⟨x.f0, q⟩ else x
theorem givG_key (a n q : Int) (x : SP) : pgK (givG a n q x) = pgK x := by
  unfold givG
  split <;> rfl
def cntG (p : List SP) (a n : Int) : Nat := (p.filter (fun x => decide (a ≤ x.f0 ∧ x.f0 - a < n))).length
def protG (l : List SM) (m : List SC) (b : Int) (p : List SP) (a n q : Int) : List SM × List SC × List SP × Int :=
  if wrongG a n q = true then (l, m, p, 22) else if (cntG p a n : Int) < n then (l, m, p, 12) else (l, m, p.map (givG a n q), 0)
theorem ref04_in {x a n : Int} (x0 : 0 ≤ x) (x1 : x < 4294967296) (a0 : 0 ≤ a) {β : Type} (u v : β) : (if x ≥ a then (if (x - a) % 4294967296 < n then u else v) else v) = if decide (a ≤ x ∧ x - a < n) = true then u else v := by
  by_cases h : a ≤ x
  · rw [if_pos (show x ≥ a from h), show (x - a) % 4294967296 = x - a by omega]
    by_cases h2 : x - a < n
    · rw [if_pos h2, decide_eq_true ⟨h, h2⟩, if_pos rfl]
    rw [if_neg h2, decide_eq_false (fun e => h2 e.2), if_neg (by decide)]
  rw [if_neg (show ¬ x ≥ a from h), decide_eq_false (fun e => h e.1), if_neg (by decide)]
theorem ref04_Protect_l0 (l : List SM) (m : List SC) (b : Int) {p : List SP} (P : PagesG p) {a n q : Int} (a0 : 0 ≤ a) : ∀ (k i c : Nat) (o : List SP), i ≤ p.length → p.length - i < k → o.length ≤ i → c ≤ i →
    ferryref04_Protect.l0 k a n q o (c : Int) (i : Int) l m b p = if ((c + cntG (p.drop i) a n : Nat) : Int) < n then some (l, m, b, p, 12) else some (l, m, b, o ++ (p.drop i).map (givG a n q), 0)
  | 0, i, _, _, _, h, _, _ => by omega
  | k + 1, i, c, o, hi, h, ho, hc => by
    have hpn := P.pn
    unfold ferryref04_Protect.l0
    by_cases hlt : i < p.length
    · have hx := P.pp _ (List.getElem_mem hlt)
      have hw : wrap64 ((i : Int) + 1) = ((i + 1 : Nat) : Int) := by unfold wrap64; omega
      have hw2 : ((c : Int) + 1) % 4294967296 = ((c + 1 : Nat) : Int) := by omega
      rw [if_pos (by omega), if_pos (by omega), pg_getR hlt, hw, hw2, if_pos (show o.length < 8796093022208 by omega), if_pos (show o.length < 8796093022208 by omega), ref04_in hx.1 (by omega) a0, List.drop_eq_getElem_cons hlt, List.map_cons]
      have ec : cntG (p[i] :: p.drop (i + 1)) a n = (if decide (a ≤ p[i].f0 ∧ p[i].f0 - a < n) = true then cntG (p.drop (i + 1)) a n + 1 else cntG (p.drop (i + 1)) a n) := by
        unfold cntG
        rw [List.filter_cons]
        split <;> rfl
      rw [ec]
      unfold givG
      by_cases hb : decide (a ≤ p[i].f0 ∧ p[i].f0 - a < n) = true
      · rw [if_pos hb, if_pos hb, if_pos hb, ref04_Protect_l0 l m b P a0 k (i + 1) (c + 1) _ hlt (by omega) (by simp; omega) (by omega), List.append_assoc, show c + 1 + cntG (p.drop (i + 1)) a n = c + (cntG (p.drop (i + 1)) a n + 1) by omega]
        rfl
      rw [if_neg hb, if_neg hb, if_neg hb, ref04_Protect_l0 l m b P a0 k (i + 1) c _ hlt (by omega) (by simp; omega) (by omega), List.append_assoc]
      rfl
    rw [if_neg (by omega), List.drop_eq_nil_of_le (by omega)]
    simp [cntG]
theorem ref04_Protect (l : List SM) (m : List SC) (b : Int) {p : List SP} (P : PagesG p) {a n q : Int} (a0 : 0 ≤ a) (a1 : a < 4294967296) (n0 : 0 ≤ n) (n1 : n < 4294967296) (k : Nat) (hk : 300 < k) :
    ferryref04_Protect.f k l m b p a n q = some ((protG l m b p a n q).1, (protG l m b p a n q).2.1, b, (protG l m b p a n q).2.2.1, (protG l m b p a n q).2.2.2) := by
  have hpn := P.pn
  unfold ferryref04_Protect.f protG
  rw [ref04_wrong a0 a1 n0 n1, Option.bind_some]
  by_cases h : wrongG a n q = true
  · rw [if_pos h, if_pos h]
  rw [if_neg h, if_neg h]
  have := ref04_Protect_l0 l m b P (n := n) (q := q) a0 k 0 0 [] (Nat.zero_le _) (by omega) (by simp) (Nat.le_refl _)
  rw [show ((0 : Nat) : Int) = 0 from rfl] at this
  rw [this, List.drop_zero, Nat.zero_add, List.nil_append]
  split <;> rfl
theorem guest_Protect_l0 (l : List SM) (m : List SC) (b : Int) (p : List SP) (q : Int) {T d : List SP} {N : Nat} (hN : N ≤ d.length) (hlen : T.length + d.length ≤ 1000000) : ∀ (r k j : Nat), j + r = N → r < k →
    guest_Protect.l0 k q (T.length : Int) (T ++ ((d.take j).map (fun x => (⟨x.f0, q⟩ : SP)) ++ d.drop j)) (N : Int) (j : Int) l m b p = some (l, m, b, T ++ ((d.take N).map (fun x => (⟨x.f0, q⟩ : SP)) ++ d.drop N), 0)
  | r, 0, j, _, h => by omega
  | 0, k + 1, j, hj, h => by
    obtain rfl : j = N := by omega
    unfold guest_Protect.l0
    rw [if_neg (by omega)]
  | r + 1, k + 1, j, hj, h => by
    have hjd : j < d.length := by omega
    have hml := mixF_len (fun x => (⟨x.f0, q⟩ : SP)) d j
    have hmg := mixF_get (fun x => (⟨x.f0, q⟩ : SP)) d j hjd
    have hms := mixF_set (fun x => (⟨x.f0, q⟩ : SP)) d j hjd
    unfold guest_Protect.l0
    generalize (d.take j).map (fun x => (⟨x.f0, q⟩ : SP)) ++ d.drop j = x at *
    have hw : wrap64 ((T.length : Int) + (j : Int)) = ((T.length + j : Nat) : Int) := by unfold wrap64; omega
    have hw2 : wrap64 ((j : Int) + 1) = ((j + 1 : Nat) : Int) := by unfold wrap64; omega
    have hg : (T ++ x)[T.length + j]'(by rw [List.length_append]; omega) = d[j] := by
      rw [List.getElem_append_right (Nat.le_add_right ..)]
      simp only [Nat.add_sub_cancel_left]
      exact hmg _
    rw [if_pos (by omega), hw, hw2, if_pos (by omega), if_pos (by rw [List.length_append]; omega), pg_getR (by rw [List.length_append]; omega), hg, Int.toNat_natCast, List.set_append_right _ _ (by omega), Nat.add_sub_cancel_left, hms]
    exact guest_Protect_l0 l m b p q hN hlen r k (j + 1) (by omega) (by omega)
theorem guest_Protect_spec (l : List SM) (m : List SC) (b : Int) {p : List SP} (P : PagesG p) {a n q : Int} (a0 : 0 ≤ a) (a1 : a < 4294967296) (n0 : 0 ≤ n) (n1 : n < 4294967296) (q0 : -9223372036854775808 ≤ q) (q1 : q ≤ 9223372036854775807) (k : Nat) (hk : 300 < k) :
    guest_Protect.f k l m b p a n q = some ((protG l m b p a n q).1, (protG l m b p a n q).2.1, b, (protG l m b p a n q).2.2.1, (protG l m b p a n q).2.2.2) := by
  have hpn := P.pn
  obtain ⟨k, rfl⟩ : ∃ z, k = z + 1 := ⟨k - 1, by omega⟩
  unfold guest_Protect.f protG
  rw [gwrong_some, gwrongS_eq a0 a1 n0 n1 q0 q1, Option.bind_some]
  by_cases h : wrongG a n q = true
  · rw [if_pos h, if_pos h]
  rw [if_neg h, if_neg h, at_f (by omega) P.pr, Option.bind_some]
  unfold api_Page_48.f
  rw [if_pos (by omega), Option.bind_some]
  dsimp only
  have hn := wrongG_no n0 h
  have hL := lowB_le pgK a p
  have hlow := take_lowB pgK a p
  have hge := drop_lowB pgK a P.pr
  generalize lowB pgK a p = i at *
  have hsplit : p.take i ++ p.drop i = p := List.take_append_drop i p
  have hdr : Rises pgK (p.drop i) := rises_right pgK (l := p.take i) (by rw [hsplit]; exact P.pr)
  have hdl : (p.drop i).length = p.length - i := List.length_drop ..
  have hget : ∀ (j : Nat) (hj : i + j < p.length) (hj2 : j < (p.drop i).length), p[i + j] = (p.drop i)[j] := fun j hj hj2 => (List.getElem_drop ..).symm
  have hdd : p.drop (i + n.toNat) = (p.drop i).drop n.toNat := (List.drop_drop ..).symm
  have hj0 : ∀ t, guest_Protect.j0 (k + 1) n q (i : Int) p t l m b p = if t = true then some (l, m, b, p, 12) else (if 0 ≤ (i : Int) then (if (i : Int) ≤ wrap64 ((i : Int) + wrap64 n) then (if wrap64 ((i : Int) + wrap64 n) ≤ (p.length : Int) then guest_Protect.l0 k q (i : Int) p (((p.take (wrap64 ((i : Int) + wrap64 n)).toNat).drop (i : Int).toNat).length : Int) 0 l m b p else none) else none) else none) := fun t => rfl
  have hw : wrap64 ((i : Int) + wrap64 n) = (i : Int) + n := by unfold wrap64; omega
  have hw2 : wrap64 ((i : Int) + n - 1) = (i : Int) + n - 1 := by unfold wrap64; omega
  rw [show wrap64 ((p.length : Int) - (i : Int)) % 4294967296 = ((p.drop i).length : Int) by unfold wrap64; omega, show (a + (n - 1) % 4294967296) % 4294967296 = a + n - 1 by omega]
  have FIN : n.toNat ≤ (p.drop i).length → guest_Protect.j0 (k + 1) n q (i : Int) p false l m b p = some (l, m, b, p.take i ++ (((p.drop i).take n.toNat).map (fun x => (⟨x.f0, q⟩ : SP)) ++ (p.drop i).drop n.toNat), 0) := fun hle => by
    have hT : (p.take i).length = i := by rw [List.length_take]; omega
    have hl0 := guest_Protect_l0 l m b p q (T := p.take i) (d := p.drop i) hle (by omega) n.toNat k 0 (by omega) (by omega)
    rw [hT, List.take_zero, List.map_nil, List.nil_append, List.drop_zero, hsplit] at hl0
    rw [hj0, if_neg (by decide), hw, if_pos (by omega), if_pos (by omega), if_pos (by omega), show ((p.take ((i : Int) + n).toNat).drop (i : Int).toNat).length = n.toNat by rw [List.length_drop, List.length_take]; omega]
    exact hl0
  have hcnt : cntG p a n = ((p.drop i).filter (fun x => decide (a ≤ x.f0 ∧ x.f0 - a < n))).length := by
    unfold cntG
    conv => lhs; rw [← hsplit]
    rw [List.filter_append, filter_none (l := p.take i) (fun x hx => ?_), List.nil_append]
    have := hlow x hx
    have e : pgK x = x.f0 := rfl
    exact decide_eq_false (by omega)
  have hmap : p.map (givG a n q) = p.take i ++ (p.drop i).map (givG a n q) := by
    conv => lhs; rw [← hsplit]
    rw [List.map_append]
    congr 1
    refine (List.map_congr_left (fun x hx => ?_)).trans (List.map_id _)
    have := hlow x hx
    have e : pgK x = x.f0 := rfl
    unfold givG
    rw [decide_eq_false (by omega), if_neg (by decide)]
    rfl
  rw [hcnt, hmap, hw, hw2]
  have hL2 : i < p.length ↔ 0 < (p.drop i).length := by omega
  have hL3 : (i : Int) + n - 1 < (p.length : Int) ↔ n ≤ ((p.drop i).length : Int) := by omega
  have p0 : ∀ (hj : 0 < (p.drop i).length), rd_T39 p (i : Int) = (p.drop i)[0] := fun hj => by
    rw [pg_getR (by omega), ← hget 0 (by omega) hj]
    rfl
  have p1 : ∀ (hj : n.toNat - 1 < (p.drop i).length), rd_T39 p ((i : Int) + n - 1) = (p.drop i)[n.toNat - 1] := fun hj => by
    rw [show (i : Int) + n - 1 = ((i + (n.toNat - 1) : Nat) : Int) by omega, pg_getR (by omega), ← hget (n.toNat - 1) (by omega) hj]
  have hN : ((n.toNat : Nat) : Int) = n := by omega
  generalize rd_T39 p (i : Int) = x0 at p0 ⊢
  generalize rd_T39 p ((i : Int) + n - 1) = x1 at p1 ⊢
  have BAD : guest_Protect.j0 (k + 1) n q (i : Int) p true l m b p = some (l, m, b, p, 12) := rfl
  generalize p.drop i = d at *
  have hr2 := lowB_le pgK (a + n) d
  have hlo := rises_low (a := a) hdr hge
  have hfr := filter_run (fun x => decide (a ≤ x.f0 ∧ x.f0 - a < n)) d (lowB pgK (a + n) d) hr2 (fun j hj => by
    have h1 := hlo j hj
    have e : pgK d[j] = d[j].f0 := rfl
    by_cases h2 : j < lowB pgK (a + n) d
    · have h3 := lowB_lt pgK (a + n) d j hj h2
      rw [decide_eq_true h2]
      exact decide_eq_true (by omega)
    have h3 := lowB_ge pgK (a + n) hdr j hj (by omega)
    rw [decide_eq_false h2]
    exact decide_eq_false (by omega))
  rw [hfr]
  by_cases hc : (lowB pgK (a + n) d : Int) < n
  · rw [if_pos hc]
    by_cases hlen : (d.length : Int) < n
    · rw [if_pos hlen, BAD]
    have h2 := lowB_ge pgK (a + n) hdr (n.toNat - 1) (by omega) (by omega)
    have e : pgK (d[n.toNat - 1]'(by omega)) = (d[n.toNat - 1]'(by omega)).f0 := rfl
    rw [if_neg hlen, if_pos (by omega), if_pos (by omega)]
    by_cases hx : x0.f0 = a
    · rw [if_pos hx, if_pos (by omega), if_pos (hL3.2 (by omega)), p1 (by omega), bne_iff_ne.2 (show (d[n.toNat - 1]'(by omega)).f0 ≠ a + n - 1 by omega), BAD]
    rw [if_neg hx, BAD]
  rw [if_neg hc]
  have hup : ∀ (j : Nat) (hj : j < d.length), j < n.toNat → d[j].f0 ≤ a + (j : Int) := fun j hj h1 => by
    have h2 := lowB_lt pgK (a + n) d (n.toNat - 1) (by omega) (by omega)
    have e : pgK (d[n.toNat - 1]'(by omega)) = (d[n.toNat - 1]'(by omega)).f0 := rfl
    have h3 := rises_low (a := d[j].f0) (l := d.drop j) (rises_right pgK (l := d.take j) (by rw [List.take_append_drop]; exact hdr)) (fun x hx => by
      obtain ⟨z, hz, rfl⟩ := List.getElem_of_mem hx
      rw [List.length_drop] at hz
      rw [List.getElem_drop]
      rcases Nat.eq_zero_or_pos z with h0 | h0
      · subst h0
        exact Int.le_refl _
      · exact Int.le_of_lt (rises_get pgK hdr j (j + z) (by omega) (by omega))) (n.toNat - 1 - j) (by rw [List.length_drop]; omega)
    rw [List.getElem_drop] at h3
    have e2 : d[j + (n.toNat - 1 - j)]'(by omega) = d[n.toNat - 1]'(by omega) := by
      congr 1
      omega
    rw [e2] at h3
    omega
  have hlo2 : ∀ (j : Nat) (hj : j < d.length), a + (j : Int) ≤ d[j].f0 := hlo
  have hx0 := hup 0 (by omega) (by omega)
  have hx0' := hlo2 0 (by omega)
  have hx1 := hup (n.toNat - 1) (by omega) (by omega)
  have hx1' := hlo2 (n.toNat - 1) (by omega)
  rw [if_neg (by omega), if_pos (by omega), if_pos (by omega), if_pos (by rw [p0 (by omega)]; omega), if_pos (by omega), if_pos (hL3.2 (by omega)), p1 (by omega), bne_eq_false_iff_eq.2 (by omega), FIN (by omega)]
  have hd : d.map (givG a n q) = (d.take n.toNat).map (fun x => (⟨x.f0, q⟩ : SP)) ++ d.drop n.toNat := by
    conv => lhs; rw [← List.take_append_drop n.toNat d]
    rw [List.map_append]
    congr 1
    · refine List.map_congr_left (fun x hx => ?_)
      obtain ⟨j, hj, rfl⟩ := List.getElem_of_mem hx
      rw [List.length_take] at hj
      have h1 := hup j (by omega) (by omega)
      have h2 := hlo2 j (by omega)
      rw [List.getElem_take]
      unfold givG
      rw [decide_eq_true (by omega), if_pos rfl]
    · refine (List.map_congr_left (fun x hx => ?_)).trans (List.map_id _)
      obtain ⟨j, hj, rfl⟩ := List.getElem_of_mem hx
      rw [List.length_drop] at hj
      have h2 := hlo2 (n.toNat + j) (by omega)
      rw [List.getElem_drop]
      unfold givG
      rw [decide_eq_false (by omega), if_neg (by decide)]
      rfl
  rw [hd]
end Go.Proofs.Ytjhfglpgpicmiaa.F
end
