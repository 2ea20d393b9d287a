import Derived.Below
import Derived.Deep.Draws
import Derived.Deep.AppendLies
import Derived.Maps.AppendAt
import Derived.OwnWalk
import Derived.Laws.BytesArg
import Derived.Laws.MakeOwn
import Derived.Laws.OwnMore
import Derived.Deep.OwnRows
import Derived.Tactics
import Derived.Lib.ConvBytes
import Derived.Laws.Slices
import Derived.WalkKit
import Derived.KernelRfl
import Derived.RowKit3
import Derived.Deep.LoopGhost
import Derived.Deep.QuietTactic
import Derived.BigQuiet
import Derived.WideLaws
import Derived.Deep.DeepCutAuto
import Derived.Deep.CutBlock
import Derived.Deep.RegionHeld3
import Derived.Laws.Rows
import Derived.Lib.AppendStr
import Derived.ArgAppend
import Derived.Laws.IdiomCopy
import Derived.RowKit
import Derived.OrdersHeld
import Derived.Laws.BitsLemmas
import Derived.Laws.StructEq
import Derived.OwnWalkIn
import Derived.ProofKit
import Derived.Lib.Hide
import Derived.Shelf.RegionOpen
import Derived.Shelf.Abstract
import Derived.Lib.SliceRun
import Derived.WalkSmall
import Derived.Laws.ResultCell
import Derived.Shelf.Spec.SlicesInsertGrow
import Derived.OpenShut
import Derived.Deep.Slices
import Derived.SizedLaws
import Derived.Test.YtlmmipdgedfboaaZF0
import Derived.Test.YtlmmipdgedfboaaYA0Sorted
import Derived.Test.YtlmmipdgedfboaaYA3HHost0
import Derived.Test.YtlmmipdgedfboaaYA6
import Derived.Test.YtlmmipdgedfboaaYA7HHost3
import Derived.Test.YtlmmipdgedfboaaYA9
import Derived.Test.YtlmmipdgedfboaaYA14
import Derived.Test.YtlmmipdgedfboaaYA16
import Derived.Test.YtlmmipdgedfboaaYB24HHost3
import Derived.Test.YtlmmipdgedfboaaYB29
import Derived.Test.YtlmmipdgedfboaaYB31FFerryref03Wrong
import Derived.Test.YtlmmipdgedfboaaYB33FFerryref03Unmap
section
namespace Go.Proofs.Ytlmmipdgedfboaa.F
open Go.RowKit Go.Shelf Go.Proofs.YtlmmipdgedfboaaW.PrintWords Go.Proofs.YtlmmipdgedfboaaW.PrintLast Go.Proofs.YtlmmipdgedfboaaW.PrintMore
set_option linter.unusedVariables false
set_option linter.unusedSimpArgs false
theorem ref_wrong {a n p : Int} (a0 : 0 ≤ a) (a1 : a ≤ 18446744073709551615) (n0 : 0 ≤ n) : ferryref03_wrong.f a n p = some (wrongS a n p) := by
  unfold ferryref03_wrong.f wrongS
  rw [u64w]
  by_cases h1 : n = 0
  · rw [if_pos h1, decide_eq_true (by omega)]
  rw [if_neg h1]
  by_cases h2 : a ≥ 1125899906842624
  · rw [if_pos h2, decide_eq_true (by omega)]
  rw [if_neg h2]
  by_cases h3 : n > 1125899906842624 - a
  · rw [if_pos (by omega), decide_eq_true (by omega)]
  rw [if_neg (by omega)]
  by_cases h4 : p < 0
  · rw [if_pos h4, decide_eq_true (by omega)]
  rw [if_neg h4]
  congr 1
  exact decide_eq_decide.2 (by omega)
theorem host_wrong_spec {a n p : Int} (a0 : 0 ≤ a) (a1 : a ≤ 18446744073709551615) (n0 : 0 ≤ n) (p0 : -9223372036854775808 ≤ p) (p1 : p ≤ 9223372036854775807) : host_wrong.f a n p = some (wrongS a n p) := by
  unfold host_wrong.f host_badProt.f wrongS
  rw [u64w, Option.bind_some, badProt_iff p0 p1]
  by_cases h1 : n = 0
  · rw [if_pos h1, decide_eq_true (by omega)]
  rw [if_neg h1]
  by_cases h2 : a > 1125899906842624
  · rw [if_pos h2, decide_eq_true (by omega)]
  rw [if_neg h2]
  by_cases h3 : n > 1125899906842624 - a
  · rw [if_pos (by omega), decide_eq_true (by omega)]
  rw [if_neg (by omega)]
  by_cases h5 : a = 1125899906842624
  · omega
  congr 1
  by_cases h4 : 0 ≤ p ∧ p ≤ 7
  · rw [decide_eq_true h4, decide_eq_false (by omega)]
    rfl
  · rw [decide_eq_false h4, decide_eq_true (by omega)]
    rfl
theorem ref_out {p a n : Int} (p0 : 0 ≤ p) (p1 : p ≤ 18446744073709551615) (a0 : 0 ≤ a) {β : Type} (x y : β) : (if p < a then x else if IntKind.u64.wrap (p - a) ≥ n then x else y) = if withB p a n = true then y else x := by
  rw [withB_eq p0 p1 a0, u64w]
  by_cases h : p < a
  · rw [if_pos h, decide_eq_false (by omega), if_neg (by decide)]
  · rw [if_neg h]
    by_cases h2 : p - a ≥ n
    · rw [if_pos (by omega), decide_eq_false (by omega), if_neg (by decide)]
    · rw [if_neg (by omega), decide_eq_true (by omega), if_pos rfl]
theorem ref_in {p a n : Int} (p0 : 0 ≤ p) (p1 : p ≤ 18446744073709551615) (a0 : 0 ≤ a) {β : Type} (x y : β) : (if p ≥ a then (if IntKind.u64.wrap (p - a) < n then x else y) else y) = if withB p a n = true then x else y := by
  rw [withB_eq p0 p1 a0, u64w]
  by_cases h : p ≥ a
  · rw [if_pos h]
    by_cases h2 : p - a < n
    · rw [if_pos (by omega), decide_eq_true (by omega), if_pos rfl]
    · rw [if_neg (by omega), decide_eq_false (by omega), if_neg (by decide)]
  · rw [if_neg h, decide_eq_false (by omega), if_neg (by decide)]
theorem ref_Unmap_l1 (l : List SM) (m : List SC) (wm : ∀ x ∈ m, wfC x) (hm : m.length ≤ 1000000) {a n : Int} (a0 : 0 ≤ a) (o : List SM) : ∀ (k i : Nat) (o2 : List SC), i ≤ m.length → m.length - i < k → o2.length ≤ i →
    ferryref03_Unmap.l1 k a n o o2 (i : Int) l m = some (o, o2 ++ (m.drop i).filter (fun x => !withB (IntKind.u64.wrap (Int.tdiv x.f0 16384)) a n), 0)
  | 0, i, _, _, h, _ => by omega
  | k + 1, i, o2, hi, h, ho => by
    unfold ferryref03_Unmap.l1
    by_cases hlt : i < m.length
    · have hx : (0 ≤ m[i].f0 ∧ m[i].f0 ≤ 18446744073709551615) ∧ _ := wm _ (List.getElem_mem hlt)
      have hw : wrap64 ((i : Int) + 1) = ((i + 1 : Nat) : Int) := by unfold wrap64; omega
      have hq := quo_u64 hx.1.1 (show m[i].f0 < 18446744073709551616 by omega) (show (0 : Int) < 16384 by omega)
      have hq1 : m[i].f0 / 16384 ≤ m[i].f0 := Int.ediv_le_self _ hx.1.1
      have hq0 : 0 ≤ m[i].f0 / 16384 := Int.ediv_nonneg hx.1.1 (by omega)
      rw [if_pos (by omega), if_pos (by omega), cl_getR hlt, hw, if_pos (show o2.length < 8796093022208 by omega), hq, ref_out hq0 (by omega) a0, List.drop_eq_getElem_cons hlt, List.filter_cons, hq]
      by_cases hb : withB (m[i].f0 / 16384) a n = true
      · rw [if_pos hb, hb, if_neg (by simp), ref_Unmap_l1 l m wm hm a0 o k (i + 1) o2 hlt (by omega) (by omega)]
      · rw [if_neg hb, if_pos (by simpa using hb), ref_Unmap_l1 l m wm hm a0 o k (i + 1) _ hlt (by omega) (by simp; omega), List.append_assoc]
        rfl
    · rw [if_neg (by omega), List.drop_eq_nil_of_le (by omega)]
      simp
theorem ref_Unmap_l0 (l : List SM) (m : List SC) (wl : ∀ x ∈ l, wfM x) (wm : ∀ x ∈ m, wfC x) (hl : l.length ≤ 1000000) (hm : m.length ≤ 1000000) {a n : Int} (a0 : 0 ≤ a) : ∀ (k i : Nat) (o : List SM), i ≤ l.length → l.length - i + m.length + 1 < k → o.length ≤ i →
    ferryref03_Unmap.l0 k a n o (i : Int) l m = some (o ++ (l.drop i).filter (fun x => !withB x.f0 a n), m.filter (fun x => !withB (IntKind.u64.wrap (Int.tdiv x.f0 16384)) a n), 0)
  | 0, i, _, _, h, _ => by omega
  | k + 1, i, o, hi, h, ho => by
    unfold ferryref03_Unmap.l0
    by_cases hlt : i < l.length
    · have hx : (0 ≤ l[i].f0 ∧ l[i].f0 ≤ 18446744073709551615) ∧ _ := wl _ (List.getElem_mem hlt)
      have hw : wrap64 ((i : Int) + 1) = ((i + 1 : Nat) : Int) := by unfold wrap64; omega
      rw [if_pos (by omega), if_pos (by omega), mp_getR hlt, hw, if_pos (show o.length < 8796093022208 by omega), ref_out hx.1.1 hx.1.2 a0, List.drop_eq_getElem_cons hlt, List.filter_cons]
      by_cases hb : withB l[i].f0 a n = true
      · rw [if_pos hb, hb, if_neg (by simp), ref_Unmap_l0 l m wl wm hl hm a0 k (i + 1) o hlt (by omega) (by omega)]
      · rw [if_neg hb, if_pos (by simpa using hb), ref_Unmap_l0 l m wl wm hl hm a0 k (i + 1) _ hlt (by omega) (by simp; omega), List.append_assoc]
        rfl
    · rw [if_neg (by omega), List.drop_eq_nil_of_le (by omega)]
      have := ref_Unmap_l1 l m wm hm (n := n) a0 o k 0 [] (Nat.zero_le _) (by omega) (by simp)
      rw [show ((0 : Nat) : Int) = 0 from rfl] at this
      rw [this]
      simp
def unmapS (l : List SM) (m : List SC) (a n : Int) : List SM × List SC × Int :=
  if wrongS a n 0 = true then (l, m, 22) else (l.filter (fun x => !withB x.f0 a n), m.filter (fun x => !withB (x.f0 / 16384) a n), 0)
theorem filter_cells {m : List SC} (wm : ∀ x ∈ m, wfC x) (a n : Int) : m.filter (fun x => !withB (IntKind.u64.wrap (Int.tdiv x.f0 16384)) a n) = m.filter (fun x => !withB (x.f0 / 16384) a n) := by
  refine List.filter_congr (fun x hx => ?_)
  have hw : (0 ≤ x.f0 ∧ x.f0 ≤ 18446744073709551615) ∧ _ := wm x hx
  rw [quo_u64 hw.1.1 (by omega) (by omega)]
theorem ref_Unmap (l : List SM) (m : List SC) (wl : ∀ x ∈ l, wfM x) (wm : ∀ x ∈ m, wfC x) (hl : l.length ≤ 1000000) (hm : m.length ≤ 1000000) {a n : Int} (a0 : 0 ≤ a) (a1 : a ≤ 18446744073709551615) (n0 : 0 ≤ n) (k : Nat) (hk : l.length + m.length + 1 < k) :
    ferryref03_Unmap.f k l m a n = some (unmapS l m a n) := by
  unfold ferryref03_Unmap.f unmapS
  rw [ref_wrong a0 a1 n0, Option.bind_some]
  by_cases h : wrongS a n 0 = true
  · rw [if_pos h, if_pos h]
  · rw [if_neg h, if_neg h]
    have := ref_Unmap_l0 l m wl wm hl hm (n := n) a0 k 0 [] (Nat.zero_le _) (by omega) (by simp)
    rw [show ((0 : Nat) : Int) = 0 from rfl] at this
    rw [this, filter_cells wm]
    simp
theorem host_Unmap_spec (l : List SM) (m : List SC) (wm : ∀ x ∈ m, wfC x) (hl : l.length ≤ 1000000) (hm : m.length ≤ 1000000) {a n : Int} (a0 : 0 ≤ a) (a1 : a ≤ 18446744073709551615) (n0 : 0 ≤ n) :
    host_Unmap.f l m a n = some (unmapS l m a n) := by
  unfold host_Unmap.f unmapS
  rw [host_wrong_spec a0 a1 n0 (by omega) (by omega), Option.bind_some]
  by_cases h : wrongS a n 0 = true
  · rw [if_pos h, if_pos h]
  · rw [if_neg h, if_neg h, if_pos ⟨hl, hm⟩, filter_cells wm]
theorem has_filter {l : List SM} {k : Int} {p : SM → Bool} (h : has mpK k l = true) (hp : ∀ x ∈ l, mpK x = k → p x = true) : has mpK k (l.filter p) = true := by
  obtain ⟨x, hx, he⟩ := List.any_eq_true.1 h
  have he2 := of_decide_eq_true he
  exact List.any_eq_true.2 ⟨x, List.mem_filter.2 ⟨hx, hp x hx he2⟩, he⟩
theorem FitH.unmap {l : List SM} {m : List SC} (h : FitH l m) (a n : Int) : FitH (unmapS l m a n).1 (unmapS l m a n).2.1 := by
  unfold unmapS
  split
  · exact h
  · refine ⟨rises_filter mpK _ h.lr, Nat.le_trans (List.length_filter_le _ _) h.ln, fun x hx => h.lp x (List.mem_filter.1 hx).1, rises_filter clK _ h.mr, Nat.le_trans (List.length_filter_le _ _) h.mn, fun x hx => ?_⟩
    obtain ⟨h1, h2⟩ := List.mem_filter.1 hx
    have h3 := h.mp x h1
    refine ⟨h3.1, h3.2.1, h3.2.2.1, h3.2.2.2.1, h3.2.2.2.2.1, has_filter h3.2.2.2.2.2 (fun y hy he => ?_)⟩
    show (!withB (mpK y) a n) = true
    rw [he]
    exact h2
end Go.Proofs.Ytlmmipdgedfboaa.F
end
