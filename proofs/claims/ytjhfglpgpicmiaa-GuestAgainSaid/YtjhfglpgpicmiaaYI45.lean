import Derived.Below
import Derived.Deep.Draws
import Derived.Deep.AppendLies
import Derived.Maps.AppendAt
import Derived.OwnWalk
import Derived.Laws.BytesArg
import Derived.Laws.MakeOwn
import Derived.Laws.OwnMore
import Derived.Deep.OwnRows
import Derived.Tactics
import Derived.Lib.ConvBytes
import Derived.Laws.Slices
import Derived.WalkKit
import Derived.KernelRfl
import Derived.RowKit3
import Derived.Deep.LoopGhost
import Derived.Deep.QuietTactic
import Derived.BigQuiet
import Derived.WideLaws
import Derived.Deep.DeepCutAuto
import Derived.Deep.CutBlock
import Derived.Deep.RegionHeld3
import Derived.Laws.Rows
import Derived.Lib.AppendStr
import Derived.ArgAppend
import Derived.Laws.IdiomCopy
import Derived.RowKit
import Derived.OrdersHeld
import Derived.Laws.BitsLemmas
import Derived.Laws.StructEq
import Derived.OwnWalkIn
import Derived.WalkSmall
import Derived.Laws.ResultCell
import Derived.ProofKit
import Derived.Lib.Hide
import Derived.Shelf.RegionOpen
import Derived.Shelf.Abstract
import Derived.Lib.SliceRun
import Derived.Shelf.Spec.SlicesInsertGrow
import Derived.OpenShut
import Derived.Deep.Slices
import Derived.SizedLaws
import Derived.RangeFuncNested
import Derived.RangeFuncBound
import Derived.RangeFuncCalls
import Derived.RangeFuncLeaves
import Derived.RangeFuncWrites
import Derived.TacticsInMore
import Derived.LoopNIn
import Derived.LoopIn
import Derived.Stop.RegionWithIn
import Derived.Test.YtjhfglpgpicmiaaZF0
import Derived.Test.YtjhfglpgpicmiaaYA0
import Derived.Test.YtjhfglpgpicmiaaYA9
import Derived.Test.YtjhfglpgpicmiaaYA11
import Derived.Test.YtjhfglpgpicmiaaYA13
import Derived.Test.YtjhfglpgpicmiaaYA14HGuest4
import Derived.Test.YtjhfglpgpicmiaaYA15
import Derived.Test.YtjhfglpgpicmiaaYA19
import Derived.Test.YtjhfglpgpicmiaaYE23PGuest5
section
namespace Go.Proofs.Ytjhfglpgpicmiaa.F
open Go.RowKit Go.Shelf Go.Proofs.YtjhfglpgpicmiaaW.PrintWords Go.Proofs.YtjhfglpgpicmiaaW.PrintLast Go.Proofs.YtjhfglpgpicmiaaW.PrintMore
set_option linter.unusedVariables false
set_option linter.unusedSimpArgs false
theorem ref04_in {x a n : Int} (x0 : 0 ≤ x) (x1 : x < 4294967296) (a0 : 0 ≤ a) {β : Type} (u v : β) : (if x ≥ a then (if (x - a) % 4294967296 < n then u else v) else v) = if decide (a ≤ x ∧ x - a < n) = true then u else v := by
  by_cases h : a ≤ x
  · rw [if_pos (show x ≥ a from h), show (x - a) % 4294967296 = x - a by omega]
    by_cases h2 : x - a < n
    · rw [if_pos h2, decide_eq_true ⟨h, h2⟩, if_pos rfl]
    rw [if_neg h2, decide_eq_false (fun e => h2 e.2), if_neg (by decide)]
  rw [if_neg (show ¬ x ≥ a from h), decide_eq_false (fun e => h e.1), if_neg (by decide)]
end Go.Proofs.Ytjhfglpgpicmiaa.F
end
section
namespace Go.Proofs.Ytjhfglpgpicmiaa.F
open Go.RowKit Go.Shelf Go.Proofs.YtjhfglpgpicmiaaW.PrintWords Go.Proofs.YtjhfglpgpicmiaaW.PrintLast Go.Proofs.YtjhfglpgpicmiaaW.PrintMore
set_option linter.unusedVariables false
set_option linter.unusedSimpArgs false
theorem map_unmap {l : List SM} {m : List SC} {b : Int} {p : List SP} (h : FitG l m b p) {a n q : Int} (a0 : 0 ≤ a) (n0 : 0 ≤ n) (hno : ∀ x ∈ p, ¬ (a ≤ x.f0 ∧ x.f0 - a < n)) (hw : ¬ wrongG a n q = true) (hf : ¬ 256 - ((delS p a n).length : Int) < n) {l' : List SM} (e : mapLoopL p b (hostsL (hoN b a) (hoN b (a + n - 1))) l = some l') :
    unmapG l' (clearS m (b + a * 4096) (n * 4096)) b (insG (delS p a n) a n q) a n = (l, m, p, 0) := by
  have hn := wrongG_no n0 hw
  have h0 := h.base.b0
  have h2 := h.base.b2
  have H2 := h.mapped a0 n0 hw hf e
  obtain ⟨hF, hm, hnew⟩ := mapLoopL_spec _ h.h (hosts_bd h.base a0 hn.1 hn.2.1) e
  have hw2 : ¬ wrongG a n 0 = true := by
    unfold wrongG
    rw [decide_eq_true_eq]
    omega
  have hd : delS (insG (delS p a n) a n q) a n = p := by
    refine rises_ext (key := pgK) (delS_P H2.pages a n).pr h.pages.pr (fun x => ?_)
    rw [delS_mem H2.pages a0, insG_mem a0 n0 hn.2.1, delS_mem h.pages a0]
    constructor
    · rintro ⟨hx | ⟨i, hi, rfl⟩, hk⟩
      · exact hx.1
      · exact absurd ⟨by show a ≤ a + (i : Int); omega, by show a + (i : Int) - a < n; omega⟩ hk
    · exact fun hx => ⟨.inl ⟨hx, hno x hx⟩, hno x hx⟩
  have used : ∀ z, usedN p b z = true → usedN (insG (delS p a n) a n q) b z = true := fun z hz => by
    obtain ⟨x, hx, ex⟩ := usedN_iff.1 hz
    exact usedN_iff.2 ⟨x, (insG_mem a0 n0 hn.2.1).2 (.inl ((delS_mem h.pages a0).2 ⟨hx, hno x hx⟩)), ex⟩
  have near : ∀ z, usedN (insG (delS p a n) a n q) b z = true → b ≤ z * 16384 ∧ z * 16384 - b < 4294967296 := fun z hz => by
    obtain ⟨x, hx, rfl⟩ := usedN_iff.1 hz
    have hp := H2.pages.pp x hx
    exact hoN_mem h.base hp.1 hp.2.1
  have hcell : ∀ c ∈ m, clrC (b + a * 4096) (n * 4096) c = c := fun c hc => by
    have hmc := h.h.mp c hc
    refine clr_none h.h (by omega) (by omega) hc ?_
    by_cases hr : b ≤ c.f0 ∧ c.f0 - b < 4294967296
    · obtain ⟨x, hx, ex⟩ := h.cm c hc hr.1 hr.2
      have := hno x hx
      omega
    omega
  have hclr : clearS m (b + a * 4096) (n * 4096) = m := by
    refine rises_ext (key := clK) (clear_rises h.h.mr _ _) h.h.mr (fun c => ⟨fun hc => ?_, fun hc => clear_mem h.h hc (hcell c hc)⟩)
    obtain ⟨c', hc', rfl, _⟩ := mem_clear hc
    rw [hcell c' hc']
    exact hc'
  rw [unmapG_eq H2 a0 n0, if_neg hw2, hd, hclr, hclr]
  congr 1
  · refine rises_ext (key := mpK) (rises_filter mpK _ hF.lr) h.h.lr (fun y => ?_)
    rw [List.mem_filter, hm]
    unfold goneN
    constructor
    · rintro ⟨hy | ⟨z, hz, hu, rfl⟩, hg⟩
      · exact hy
      · have hz2 := hostsL_mem.1 hz
        have hu2 : usedN (insG (delS p a n) a n q) b z = true := usedN_iff.2 (by
          by_cases hlow : 4 * (z - b / 16384) < a
          · exact ⟨⟨a + ((0 : Nat) : Int), q⟩, (insG_mem a0 n0 hn.2.1).2 (.inr ⟨0, by omega, rfl⟩), by show hoN b (a + ((0 : Nat) : Int)) = z; unfold hoN at hz2 ⊢; omega⟩
          refine ⟨⟨a + ((4 * (z - b / 16384) - a).toNat : Int), q⟩, (insG_mem a0 n0 hn.2.1).2 (.inr ⟨(4 * (z - b / 16384) - a).toNat, ?_, rfl⟩), ?_⟩
          · unfold hoN at hz2
            omega
          · show hoN b (a + ((4 * (z - b / 16384) - a).toNat : Int)) = z
            unfold hoN at hz2 ⊢
            omega)
        have hg2 : (!(usedN (insG (delS p a n) a n q) b z && !usedN p b z)) = true := hg
        rw [hu2, hu] at hg2
        cases hg2
    · intro hy
      refine ⟨.inl hy, ?_⟩
      cases hu : usedN (insG (delS p a n) a n q) b y.f0 with
      | false => rfl
      | true =>
        have hr := near _ hu
        rw [usedN_iff.2 (h.lm y hy hr.1 hr.2).2]
        rfl
  · congr 1
    refine List.filter_eq_self.2 (fun c hc => ?_)
    have hmc := h.h.mp c hc
    unfold goneN
    cases hu : usedN (insG (delS p a n) a n q) b (c.f0 / 16384) with
    | false => rfl
    | true =>
      have hr := near _ hu
      obtain ⟨x, hx, ex⟩ := h.cm c hc (by omega) (by omega)
      rw [usedN_iff.2 ⟨x, hx, by unfold hoN; omega⟩]
      rfl
end Go.Proofs.Ytjhfglpgpicmiaa.F
end
