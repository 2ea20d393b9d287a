import Derived.Below
import Derived.Deep.Draws
import Derived.Deep.AppendLies
import Derived.Maps.AppendAt
import Derived.OwnWalk
import Derived.Laws.BytesArg
import Derived.Laws.MakeOwn
import Derived.Laws.OwnMore
import Derived.Deep.OwnRows
import Derived.Tactics
import Derived.Lib.ConvBytes
import Derived.Laws.Slices
import Derived.WalkKit
import Derived.KernelRfl
import Derived.RowKit3
import Derived.Deep.LoopGhost
import Derived.Deep.QuietTactic
import Derived.BigQuiet
import Derived.WideLaws
import Derived.Deep.DeepCutAuto
import Derived.Deep.CutBlock
import Derived.Deep.RegionHeld3
import Derived.Laws.Rows
import Derived.Lib.AppendStr
import Derived.ArgAppend
import Derived.Laws.IdiomCopy
import Derived.RowKit
import Derived.OrdersHeld
import Derived.Laws.BitsLemmas
import Derived.Laws.StructEq
import Derived.OwnWalkIn
import Derived.ProofKit
import Derived.Lib.Hide
import Derived.Shelf.RegionOpen
import Derived.Shelf.Abstract
import Derived.Lib.SliceRun
import Derived.WalkSmall
import Derived.Laws.ResultCell
import Derived.Shelf.Spec.SlicesInsertGrow
import Derived.OpenShut
import Derived.Deep.Slices
import Derived.SizedLaws
import Derived.Test.YtlmmipdgedfboaaZF0
import Derived.Test.YtlmmipdgedfboaaYA0Sorted
import Derived.Test.YtlmmipdgedfboaaYA1Slc
import Derived.Test.YtlmmipdgedfboaaYA3HHost0
import Derived.Test.YtlmmipdgedfboaaYA7HHost3
import Derived.Test.YtlmmipdgedfboaaYA9
import Derived.Test.YtlmmipdgedfboaaYA14
import Derived.Test.YtlmmipdgedfboaaYA16
import Derived.Test.YtlmmipdgedfboaaYB30HHost8
import Derived.Test.YtlmmipdgedfboaaYB34FFerryref03Protect
import Derived.Test.YtlmmipdgedfboaaYB35PHost3
section
namespace Go.Proofs.Ytlmmipdgedfboaa.F
open Go.RowKit Go.Shelf Go.Proofs.YtlmmipdgedfboaaW.PrintWords Go.Proofs.YtlmmipdgedfboaaW.PrintLast Go.Proofs.YtlmmipdgedfboaaW.PrintMore
set_option linter.unusedVariables false
set_option linter.unusedSimpArgs false
def givP (a n p : Int) (x : SM) : SM := if withB x.f0 a n = true then ⟨x.f0, p⟩ else x
theorem givP_key (a n p : Int) (x : SM) : mpK (givP a n p x) = mpK x := by
  unfold givP
  split <;> rfl
def protS (l : List SM) (m : List SC) (a n p : Int) : List SM × List SC × Int :=
  if wrongS a n p = true then (l, m, 22) else if ((l.filter (fun x => withB x.f0 a n)).length : Int) < n then (l, m, 2) else (l.map (givP a n p), m, 0)
theorem ref_Protect_l0 (l : List SM) (m : List SC) (wl : ∀ x ∈ l, wfM x) (hl : l.length ≤ 1000000) {a n p : Int} (a0 : 0 ≤ a) : ∀ (k i c : Nat) (o : List SM), i ≤ l.length → l.length - i < k → o.length ≤ i → c ≤ i →
    ferryref03_Protect.l0 k a n p o (c : Int) (i : Int) l m = if ((c + ((l.drop i).filter (fun x => withB x.f0 a n)).length : Nat) : Int) < n then some (l, m, 2) else some (o ++ (l.drop i).map (givP a n p), m, 0)
  | 0, i, _, _, _, h, _, _ => by omega
  | k + 1, i, c, o, hi, h, ho, hc => by
    unfold ferryref03_Protect.l0
    by_cases hlt : i < l.length
    · have hx : (0 ≤ l[i].f0 ∧ l[i].f0 ≤ 18446744073709551615) ∧ _ := wl _ (List.getElem_mem hlt)
      have hw : wrap64 ((i : Int) + 1) = ((i + 1 : Nat) : Int) := by unfold wrap64; omega
      have hw2 : IntKind.u64.wrap ((c : Int) + 1) = ((c + 1 : Nat) : Int) := by rw [u64w]; omega
      rw [if_pos (by omega), if_pos (by omega), mp_getR hlt, hw, hw2, if_pos (show o.length < 8796093022208 by omega), if_pos (show o.length < 8796093022208 by omega), ref_in hx.1.1 hx.1.2 a0, List.drop_eq_getElem_cons hlt, List.filter_cons, List.map_cons]
      unfold givP
      by_cases hb : withB l[i].f0 a n = true
      · rw [if_pos hb, if_pos hb, if_pos hb, ref_Protect_l0 l m wl hl a0 k (i + 1) (c + 1) _ hlt (by omega) (by simp; omega) (by omega), List.append_assoc, List.length_cons, show c + 1 + (List.filter (fun x => withB x.f0 a n) (List.drop (i + 1) l)).length = c + ((List.filter (fun x => withB x.f0 a n) (List.drop (i + 1) l)).length + 1) by omega]
        rfl
      · rw [if_neg hb, if_neg hb, if_neg hb, ref_Protect_l0 l m wl hl a0 k (i + 1) c _ hlt (by omega) (by simp; omega) (by omega), List.append_assoc]
        rfl
    · rw [if_neg (by omega), List.drop_eq_nil_of_le (by omega)]
      simp
theorem ref_Protect (l : List SM) (m : List SC) (wl : ∀ x ∈ l, wfM x) (hl : l.length ≤ 1000000) {a n p : Int} (a0 : 0 ≤ a) (a1 : a ≤ 18446744073709551615) (n0 : 0 ≤ n) (k : Nat) (hk : l.length < k) :
    ferryref03_Protect.f k l m a n p = some (protS l m a n p) := by
  unfold ferryref03_Protect.f protS
  rw [ref_wrong a0 a1 n0, Option.bind_some]
  by_cases h : wrongS a n p = true
  · rw [if_pos h, if_pos h]
  · rw [if_neg h, if_neg h]
    have := ref_Protect_l0 l m wl hl (n := n) (p := p) a0 k 0 0 [] (Nat.zero_le _) (by omega) (by simp) (Nat.le_refl _)
    rw [show ((0 : Nat) : Int) = 0 from rfl] at this
    rw [this, List.drop_zero, Nat.zero_add, List.nil_append]
    split <;> rfl
theorem rises_low {α : Type} {key : α → Int} : ∀ {l : List α} {a : Int}, Rises key l → (∀ x ∈ l, a ≤ key x) → ∀ (j : Nat) (hj : j < l.length), a + (j : Int) ≤ key l[j]
  | [], _, _, _, j, hj => by simp at hj
  | x :: l, a, _, h, 0, hj => by
    have := h x List.mem_cons_self
    simpa using this
  | x :: l, a, hr, h, j + 1, hj => by
    have h1 := h x List.mem_cons_self
    have h2 := rises_low (a := a + 1) (rises_tail key hr) (fun y hy => by have := rises_head key hr y hy; omega) j (by simpa using hj)
    have h3 : (x :: l)[j + 1] = l[j]'(by simpa using hj) := rfl
    rw [h3]
    omega
theorem runP_all {a n : Int} (a0 : 0 ≤ a) : ∀ {d : List SM}, (∀ x ∈ d, wfM x) → Rises mpK d → (∀ x ∈ d, a ≤ mpK x) → ∀ (j : Nat) (hj : j < d.length), withB d[j].f0 a n = decide (j < runP a n d)
  | [], _, _, _, j, hj => by simp at hj
  | x :: d, wd, hr, h, j, hj => by
    have hx : (0 ≤ x.f0 ∧ x.f0 ≤ 18446744073709551615) ∧ _ := wd x List.mem_cons_self
    unfold runP
    by_cases hb : withB x.f0 a n = true
    · rw [if_pos hb]
      cases j with
      | zero =>
        rw [decide_eq_true (by omega)]
        exact hb
      | succ j =>
        have ih := runP_all (n := n) a0 (fun y hy => wd y (List.mem_cons_of_mem _ hy)) (rises_tail mpK hr) (fun y hy => h y (List.mem_cons_of_mem _ hy)) j (by simpa using hj)
        have h3 : (x :: d)[j + 1] = d[j]'(by simpa using hj) := rfl
        rw [h3, ih]
        exact decide_eq_decide.2 (by omega)
    · rw [if_neg hb, decide_eq_false (by omega)]
      have hb2 := hb
      rw [withB_eq hx.1.1 hx.1.2 a0] at hb2
      have h1 : a ≤ x.f0 := h x List.mem_cons_self
      have hnw : ¬ (a ≤ x.f0 ∧ x.f0 - a < n) := by simpa using hb2
      have hm := List.getElem_mem hj
      have hw2 : (0 ≤ (x :: d)[j].f0 ∧ (x :: d)[j].f0 ≤ 18446744073709551615) ∧ _ := wd _ hm
      rw [withB_eq hw2.1.1 hw2.1.2 a0]
      have h5 : x.f0 ≤ (x :: d)[j].f0 := by
        rcases List.mem_cons.1 hm with e | e
        · rw [e]; exact Int.le_refl _
        · exact Int.le_of_lt (rises_head mpK hr _ e)
      exact decide_eq_false (by omega)
theorem filter_run {α : Type} (p : α → Bool) : ∀ (d : List α) (r : Nat), r ≤ d.length → (∀ (j : Nat) (hj : j < d.length), p d[j] = decide (j < r)) → (d.filter p).length = r
  | [], r, hr, _ => by simp at hr; simp [hr]
  | x :: d, 0, _, h => by
    have h0 := h 0 (by simp)
    simp only [List.getElem_cons_zero] at h0
    rw [List.filter_cons, h0, decide_eq_false (by omega), if_neg (by decide)]
    exact filter_run p d 0 (Nat.zero_le _) (fun j hj => by
      have := h (j + 1) (by simpa using hj)
      rw [decide_eq_false (by omega)] at this ⊢
      exact this)
  | x :: d, r + 1, hr, h => by
    have h0 := h 0 (by simp)
    simp only [List.getElem_cons_zero] at h0
    rw [List.filter_cons, h0, decide_eq_true (by omega), if_pos rfl, List.length_cons]
    congr 1
    exact filter_run p d r (by simpa using hr) (fun j hj => by
      have := h (j + 1) (by simpa using hj)
      rw [List.getElem_cons_succ] at this
      rw [this]
      exact decide_eq_decide.2 (by omega))
theorem leftP_eq {n : Int} (n1 : n ≤ 18446744073709551615) : ∀ j : Nat, (j : Int) ≤ n → leftP n j = n - (j : Int)
  | 0, _ => by unfold leftP; omega
  | j + 1, h => by
    unfold leftP
    rw [leftP_eq n1 j (by omega), u64w]
    omega
theorem filter_none {α : Type} {p : α → Bool} {l : List α} (h : ∀ x ∈ l, p x = false) : l.filter p = [] := by
  rw [List.filter_eq_nil_iff]
  intro x hx
  rw [h x hx]
  simp
theorem host_Protect_spec (l : List SM) (m : List SC) (wl : ∀ x ∈ l, wfM x) (hl : l.length ≤ 1000000) (hr : Rises mpK l) {a n p : Int} (a0 : 0 ≤ a) (a1 : a ≤ 18446744073709551615) (n0 : 0 ≤ n) (n1 : n ≤ 18446744073709551615) (p0 : -9223372036854775808 ≤ p) (p1 : p ≤ 9223372036854775807) :
    host_Protect.f l m a n p = some (protS l m a n p) := by
  unfold host_Protect.f protS
  rw [host_wrong_spec a0 a1 n0 p0 p1, Option.bind_some]
  by_cases h : wrongS a n p = true
  · rw [if_pos h, if_pos h]
  rw [if_neg h, if_neg h, if_pos ⟨hl, (risesB_iff l).2 hr⟩]
  have hT : ∀ x ∈ l.take (lowB mpK a l), withB x.f0 a n = false := fun x hx => by
    have h1 := take_lowB mpK a l x hx
    have hw : (0 ≤ x.f0 ∧ x.f0 ≤ 18446744073709551615) ∧ _ := wl x (List.mem_of_mem_take hx)
    rw [withB_eq hw.1.1 hw.1.2 a0]
    have h3 : mpK x = x.f0 := rfl
    exact decide_eq_false (by omega)
  have hD := drop_lowB mpK a hr
  have hrD : Rises mpK (l.drop (lowB mpK a l)) := rises_right mpK (l := l.take (lowB mpK a l)) (by rw [List.take_append_drop]; exact hr)
  have hwD : ∀ x ∈ l.drop (lowB mpK a l), wfM x := fun x hx => wl x (List.mem_of_mem_drop hx)
  have hR := runP_all (n := n) a0 hwD hrD hD
  have hle := runP_le a n (l.drop (lowB mpK a l))
  have hrn : (runP a n (l.drop (lowB mpK a l)) : Int) ≤ n := by
    rcases Nat.eq_zero_or_pos (runP a n (l.drop (lowB mpK a l))) with e | e
    · omega
    · have hj : runP a n (l.drop (lowB mpK a l)) - 1 < (l.drop (lowB mpK a l)).length := by omega
      have h1 := rises_low hrD hD _ hj
      have h2 := hR _ hj
      have hw : (0 ≤ ((l.drop (lowB mpK a l))[runP a n (l.drop (lowB mpK a l)) - 1]).f0 ∧ ((l.drop (lowB mpK a l))[runP a n (l.drop (lowB mpK a l)) - 1]).f0 ≤ 18446744073709551615) ∧ _ := hwD _ (List.getElem_mem hj)
      rw [decide_eq_true (by omega), withB_eq hw.1.1 hw.1.2 a0] at h2
      have h3 := of_decide_eq_true h2
      have h4 : mpK ((l.drop (lowB mpK a l))[runP a n (l.drop (lowB mpK a l)) - 1]) = ((l.drop (lowB mpK a l))[runP a n (l.drop (lowB mpK a l)) - 1]).f0 := rfl
      omega
  have hc : (l.filter (fun x => withB x.f0 a n)).length = runP a n (l.drop (lowB mpK a l)) := by
    conv => lhs; rw [← List.take_append_drop (lowB mpK a l) l]
    rw [List.filter_append, filter_none hT, List.nil_append]
    exact filter_run _ _ _ hle hR
  rw [leftP_eq n1 _ hrn, hc]
  by_cases hf : (runP a n (l.drop (lowB mpK a l)) : Int) < n
  · rw [if_pos (by omega), if_pos hf]
  · rw [if_neg (by omega), if_neg hf]
    congr 2
    unfold protL
    conv => rhs; rw [← List.take_append_drop (lowB mpK a l) l]
    rw [List.map_append]
    congr 1
    · symm
      conv => rhs; rw [← List.map_id (l.take (lowB mpK a l))]
      refine List.map_congr_left (fun x hx => ?_)
      unfold givP
      rw [hT x hx, if_neg (by decide)]
      rfl
    · generalize l.drop (lowB mpK a l) = d at hR hle
      refine List.ext_getElem (by simp; omega) (fun j h1 h2 => ?_)
      have hj : j < d.length := by simpa using h2
      have h3 := hR j hj
      rw [List.getElem_map]
      unfold givP
      by_cases hjr : j < runP a n d
      · rw [h3, decide_eq_true hjr, if_pos rfl, List.getElem_append_left (by simp; omega)]
        simp
      · rw [h3, decide_eq_false hjr, if_neg (by decide), List.getElem_append_right (by simp; omega)]
        simp only [List.getElem_drop, List.length_map, List.length_take, Nat.min_eq_left hle]
        congr 1
        omega
theorem has_map {l : List SM} (f : SM → SM) (hf : ∀ x, mpK (f x) = mpK x) (k : Int) : has mpK k (l.map f) = has mpK k l := by
  unfold has
  rw [List.any_map]
  congr 1
  funext x
  show decide (mpK (f x) = k) = _
  rw [hf]
theorem FitH.protect {l : List SM} {m : List SC} (h : FitH l m) {a n p : Int} (a0 : 0 ≤ a) : FitH (protS l m a n p).1 (protS l m a n p).2.1 := by
  unfold protS
  split
  · exact h
  rename_i hw
  split
  · exact h
  have hw2 : ¬ (n = 0 ∨ a ≥ 1125899906842624 ∨ n > 1125899906842624 - a ∨ p < 0 ∨ p > 7) := by
    unfold wrongS at hw
    simpa only [decide_eq_true_eq] using hw
  refine ⟨rises_map mpK _ (givP_key a n p) h.lr, by rw [List.length_map]; exact h.ln, fun x hx => ?_, h.mr, h.mn, fun x hx => ?_⟩
  · obtain ⟨y, hy, rfl⟩ := List.mem_map.1 hx
    have := h.lp y hy
    unfold givP
    split
    · dsimp only
      omega
    · exact this
  · have := h.mp x hx
    exact ⟨this.1, this.2.1, this.2.2.1, this.2.2.2.1, this.2.2.2.2.1, (has_map _ (givP_key a n p) _).trans this.2.2.2.2.2⟩
end Go.Proofs.Ytlmmipdgedfboaa.F
end
