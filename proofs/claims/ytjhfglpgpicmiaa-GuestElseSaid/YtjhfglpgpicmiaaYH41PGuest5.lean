import Derived.Below
import Derived.Deep.Draws
import Derived.Deep.AppendLies
import Derived.Maps.AppendAt
import Derived.OwnWalk
import Derived.Laws.BytesArg
import Derived.Laws.MakeOwn
import Derived.Laws.OwnMore
import Derived.Deep.OwnRows
import Derived.Tactics
import Derived.Lib.ConvBytes
import Derived.Laws.Slices
import Derived.WalkKit
import Derived.KernelRfl
import Derived.RowKit3
import Derived.Deep.LoopGhost
import Derived.Deep.QuietTactic
import Derived.BigQuiet
import Derived.WideLaws
import Derived.Deep.DeepCutAuto
import Derived.Deep.CutBlock
import Derived.Deep.RegionHeld3
import Derived.Laws.Rows
import Derived.Lib.AppendStr
import Derived.ArgAppend
import Derived.Laws.IdiomCopy
import Derived.RowKit
import Derived.OrdersHeld
import Derived.Laws.BitsLemmas
import Derived.Laws.StructEq
import Derived.OwnWalkIn
import Derived.WalkSmall
import Derived.Laws.ResultCell
import Derived.ProofKit
import Derived.Lib.Hide
import Derived.Shelf.RegionOpen
import Derived.Shelf.Abstract
import Derived.Lib.SliceRun
import Derived.Shelf.Spec.SlicesInsertGrow
import Derived.OpenShut
import Derived.Deep.Slices
import Derived.SizedLaws
import Derived.RangeFuncNested
import Derived.RangeFuncBound
import Derived.RangeFuncCalls
import Derived.RangeFuncLeaves
import Derived.RangeFuncWrites
import Derived.TacticsInMore
import Derived.LoopNIn
import Derived.LoopIn
import Derived.Stop.RegionWithIn
import Derived.Test.YtjhfglpgpicmiaaZF0
import Derived.Test.YtjhfglpgpicmiaaYA0
import Derived.Test.YtjhfglpgpicmiaaYA5
import Derived.Test.YtjhfglpgpicmiaaYA11
import Derived.Test.YtjhfglpgpicmiaaYA13
import Derived.Test.YtjhfglpgpicmiaaYA14HGuest4
import Derived.Test.YtjhfglpgpicmiaaYA19
import Derived.Test.YtjhfglpgpicmiaaYE23PGuest5
import Derived.Test.YtjhfglpgpicmiaaYH40FFerrylaw04Far
section
namespace Go.Proofs.Ytjhfglpgpicmiaa.F
open Go.RowKit Go.Shelf Go.Proofs.YtjhfglpgpicmiaaW.PrintWords Go.Proofs.YtjhfglpgpicmiaaW.PrintLast Go.Proofs.YtjhfglpgpicmiaaW.PrintMore
set_option linter.unusedVariables false
set_option linter.unusedSimpArgs false
def farB (b a : Int) : Bool := !decide (b ≤ a ∧ a - b < 4294967296)
theorem far_l1 {l : List SM} {m : List SC} (p : List SP) (hF : FitH l m) {b : Int} (hb : BaseG b) (o : List SM) : ∀ (k i : Nat) (o2 : List SC), i ≤ m.length → m.length - i < k → o2.length ≤ i →
    ferrylaw04_far.l1 k m (m.length : Int) (i : Int) l m b p o o2 = some (o, o2 ++ (m.drop i).filter (fun c => farB b c.f0))
  | 0, i, _, _, h, _ => by omega
  | k + 1, i, o2, hi, h, ho => by
    have h0 := hb.b0
    have h1 := hb.b1
    have hmn := hF.mn
    unfold ferrylaw04_far.l1
    by_cases hlt : i < m.length
    · have hx := hF.mp _ (List.getElem_mem hlt)
      have hw : wrap64 ((i : Int) + 1) = ((i + 1 : Nat) : Int) := by unfold wrap64; omega
      rw [if_pos (by omega), if_pos (by omega), if_pos (by omega), cl_getR hlt, hw, if_pos (show o2.length < 8796093022208 by omega), List.drop_eq_getElem_cons hlt, List.filter_cons, far_l1 p hF hb o k (i + 1) o2 hlt (by omega) (by omega), far_l1 p hF hb o k (i + 1) _ hlt (by omega) (by simp; omega), List.append_assoc, u64w]
      unfold farB
      by_cases h2 : m[i].f0 < b
      · rw [if_pos h2, decide_eq_false (by omega)]
        rfl
      rw [if_neg h2]
      by_cases h3 : (m[i].f0 - b) % 18446744073709551616 ≥ 4294967296
      · rw [if_pos h3, decide_eq_false (by omega)]
        rfl
      rw [if_neg h3, decide_eq_true (by omega)]
      rfl
    rw [if_neg (by omega), List.drop_eq_nil_of_le (by omega)]
    simp
theorem far_l0 {l : List SM} {m : List SC} (p : List SP) (hF : FitH l m) {b : Int} (hb : BaseG b) : ∀ (k i : Nat) (o : List SM), i ≤ l.length → l.length - i + m.length + 1 < k → o.length ≤ i →
    ferrylaw04_far.l0 k l (l.length : Int) (i : Int) l m b p o = some (o ++ (l.drop i).filter (fun y => farB b (y.f0 * 16384)), m.filter (fun c => farB b c.f0))
  | 0, i, _, _, h, _ => by omega
  | k + 1, i, o, hi, h, ho => by
    have h0 := hb.b0
    have h1 := hb.b1
    have hln := hF.ln
    unfold ferrylaw04_far.l0
    by_cases hlt : i < l.length
    · have hx := hF.lp _ (List.getElem_mem hlt)
      have hw : wrap64 ((i : Int) + 1) = ((i + 1 : Nat) : Int) := by unfold wrap64; omega
      rw [if_pos (by omega), if_pos (by omega), if_pos (by omega), mp_getR hlt, hw, if_pos (show o.length < 8796093022208 by omega), List.drop_eq_getElem_cons hlt, List.filter_cons, far_l0 p hF hb k (i + 1) o hlt (by omega) (by omega), far_l0 p hF hb k (i + 1) _ hlt (by omega) (by simp; omega), List.append_assoc, u64w (_ * 16384), show l[i].f0 * 16384 % 18446744073709551616 = l[i].f0 * 16384 by omega, u64w]
      unfold farB
      by_cases h2 : l[i].f0 * 16384 < b
      · rw [if_pos h2, decide_eq_false (by omega)]
        rfl
      rw [if_neg h2]
      by_cases h3 : (l[i].f0 * 16384 - b) % 18446744073709551616 ≥ 4294967296
      · rw [if_pos h3, decide_eq_false (by omega)]
        rfl
      rw [if_neg h3, decide_eq_true (by omega)]
      rfl
    rw [if_neg (by omega), List.drop_eq_nil_of_le (by omega)]
    have := far_l1 p hF hb o k 0 [] (Nat.zero_le _) (by omega) (by simp)
    rw [List.drop_zero, List.nil_append, show ((0 : Nat) : Int) = 0 from rfl] at this
    rw [this]
    simp
theorem far04 {l : List SM} {m : List SC} {b : Int} {p : List SP} (hF : FitG l m b p) (k : Nat) (hk : 200000 < k) : ferrylaw04_far.f k l m b p = some (l.filter (fun y => farB b (y.f0 * 16384)), m.filter (fun c => farB b c.f0)) := by
  have h1 := hF.h.ln
  have h2 := hF.h.mn
  have := far_l0 p hF.h hF.base k 0 [] (Nat.zero_le _) (by omega) (by simp)
  rw [List.drop_zero, List.nil_append, show ((0 : Nat) : Int) = 0 from rfl] at this
  exact this
theorem farB_mem {b a : Int} : farB b a = true ↔ ¬ (b ≤ a ∧ a - b < 4294967296) := by
  unfold farB
  rw [Bool.not_eq_true', decide_eq_false_iff_not]
theorem far_clear {l : List SM} {m : List SC} {b : Int} {p : List SP} (h : FitG l m b p) {a n : Int} (a0 : 0 ≤ a) (n0 : 0 ≤ n) (hn : a + n ≤ 1048576) : (clearS m (b + a * 4096) (n * 4096)).filter (fun c => farB b c.f0) = m.filter (fun c => farB b c.f0) := by
  have h0 := h.base.b0
  have h2 := h.base.b2
  refine rises_ext (key := clK) (rises_filter clK _ (clear_rises h.h.mr _ _)) (rises_filter clK _ h.h.mr) (fun c => ?_)
  rw [List.mem_filter, List.mem_filter]
  constructor
  · rintro ⟨hc, hf⟩
    obtain ⟨c', hc', rfl, _⟩ := mem_clear hc
    have ec : (clrC (b + a * 4096) (n * 4096) c').f0 = c'.f0 := rfl
    have hm := h.h.mp c' hc'
    have hf2 := farB_mem.1 hf
    rw [ec] at hf2
    have e := clr_none h.h (a := b + a * 4096) (n := n * 4096) (by omega) (by omega) hc' (by omega)
    rw [e] at hf ⊢
    exact ⟨hc', hf⟩
  · rintro ⟨hc, hf⟩
    have hm := h.h.mp c hc
    have hf2 := farB_mem.1 hf
    exact ⟨clear_mem h.h hc (clr_none h.h (by omega) (by omega) hc (by omega)), hf⟩
theorem far_map {l : List SM} {m : List SC} {b : Int} {p : List SP} (h : FitG l m b p) {a n q : Int} (a0 : 0 ≤ a) (n0 : 0 ≤ n) : (mapG l m b p a n q).1.filter (fun y => farB b (y.f0 * 16384)) = l.filter (fun y => farB b (y.f0 * 16384)) ∧ (mapG l m b p a n q).2.1.filter (fun c => farB b c.f0) = m.filter (fun c => farB b c.f0) := by
  rcases mapG_cases l m b p a n q with ⟨e1, e2, e3, _⟩ | ⟨hw, hf, l', e, e1⟩
  · rw [e1, e2]
    exact ⟨rfl, rfl⟩
  · have hn := wrongG_no n0 hw
    have h0 := h.base.b0
    have h2 := h.base.b2
    rw [e1]
    refine ⟨?_, far_clear h a0 n0 hn.2.1⟩
    obtain ⟨hF, hm, _⟩ := mapLoopL_spec _ h.h (hosts_bd h.base a0 hn.1 hn.2.1) e
    refine rises_ext (key := mpK) (rises_filter mpK _ hF.lr) (rises_filter mpK _ h.h.lr) (fun y => ?_)
    rw [List.mem_filter, List.mem_filter]
    constructor
    · rintro ⟨hy, hfar⟩
      rcases (hm y).1 hy with hy | ⟨z, hz, _, rfl⟩
      · exact ⟨hy, hfar⟩
      · have hz2 := hostsL_mem.1 hz
        refine absurd ?_ (farB_mem.1 hfar)
        show b ≤ z * 16384 ∧ z * 16384 - b < 4294967296
        unfold hoN at hz2
        omega
    · rintro ⟨hy, hfar⟩
      exact ⟨(hm y).2 (.inl hy), hfar⟩
theorem far_unmap {l : List SM} {m : List SC} {b : Int} {p : List SP} (h : FitG l m b p) {a n : Int} (a0 : 0 ≤ a) (n0 : 0 ≤ n) : (unmapG l m b p a n).1.filter (fun y => farB b (y.f0 * 16384)) = l.filter (fun y => farB b (y.f0 * 16384)) ∧ (unmapG l m b p a n).2.1.filter (fun c => farB b c.f0) = m.filter (fun c => farB b c.f0) := by
  have h0 := h.base.b0
  have h2 := h.base.b2
  rw [unmapG_eq h a0 n0]
  by_cases hw : wrongG a n 0 = true
  · rw [if_pos hw]
    exact ⟨rfl, rfl⟩
  rw [if_neg hw]
  have hn := wrongG_no n0 hw
  have near : ∀ z : Int, farB b (z * 16384) = true → goneN p (delS p a n) b z = false := fun z hz => by
    unfold goneN
    rw [show usedN p b z = false from Bool.eq_false_iff.2 (fun e => ?_)]
    · rfl
    · obtain ⟨x, hx, rfl⟩ := usedN_iff.1 e
      have hp := h.pages.pp x hx
      exact farB_mem.1 hz (hoN_mem h.base hp.1 hp.2.1)
  constructor
  · dsimp only
    rw [List.filter_filter]
    refine List.filter_congr (fun y hy => ?_)
    cases hfar : farB b (y.f0 * 16384) with
    | false => rfl
    | true => rw [near _ hfar]; rfl
  · dsimp only
    rw [List.filter_filter, ← far_clear h a0 n0 hn.2.1]
    refine List.filter_congr (fun c hc => ?_)
    have hm := (h.h.clear (a := b + a * 4096) (n := n * 4096) (by omega) (by omega)).mp c hc
    cases hfar : farB b c.f0 with
    | false => rfl
    | true =>
      rw [near (c.f0 / 16384) (farB_mem.2 (fun e => farB_mem.1 hfar (by omega)))]
      rfl
end Go.Proofs.Ytjhfglpgpicmiaa.F
end
