import Derived.Below
import Derived.Deep.Draws
import Derived.Deep.AppendLies
import Derived.Maps.AppendAt
import Derived.OwnWalk
import Derived.Laws.BytesArg
import Derived.Laws.MakeOwn
import Derived.Laws.OwnMore
import Derived.Deep.OwnRows
import Derived.Tactics
import Derived.Lib.ConvBytes
import Derived.Laws.Slices
import Derived.WalkKit
import Derived.KernelRfl
import Derived.RowKit3
import Derived.Deep.LoopGhost
import Derived.Deep.QuietTactic
import Derived.BigQuiet
import Derived.WideLaws
import Derived.Deep.DeepCutAuto
import Derived.Deep.CutBlock
import Derived.Deep.RegionHeld3
import Derived.Laws.Rows
import Derived.Lib.AppendStr
import Derived.ArgAppend
import Derived.Laws.IdiomCopy
import Derived.RowKit
import Derived.OrdersHeld
import Derived.Laws.BitsLemmas
import Derived.Laws.StructEq
import Derived.OpenShut
import Derived.ProofKit
import Derived.Deep.Slices
import Derived.SizedLaws
import Derived.OwnWalkIn
import Derived.WalkSmall
import Derived.Laws.ResultCell
import Derived.Lib.Hide
import Derived.Shelf.RegionOpen
import Derived.Shelf.Abstract
import Derived.Lib.SliceRun
import Derived.Shelf.Spec.SlicesInsertGrow
import Derived.Test.YtjhfglpgpicmiaaZF0
import Derived.Test.YtjhfglpgpicmiaaYA0
import Derived.Test.YtjhfglpgpicmiaaYA4HHost3
import Derived.Test.YtjhfglpgpicmiaaYA10HGuest1
import Derived.Test.YtjhfglpgpicmiaaYA11
import Derived.Test.YtjhfglpgpicmiaaYA13
section
namespace Go.Proofs.Ytjhfglpgpicmiaa.F
open Go.RowKit Go.Proofs.YtjhfglpgpicmiaaW.PrintWords Go.Proofs.YtjhfglpgpicmiaaW.PrintLast Go.Proofs.YtjhfglpgpicmiaaW.PrintMore
set_option linter.unusedVariables false
theorem rT_ {p q : Prop} (h0 : p) (h : p → q := by (intro h0; (with_reducible repeat (first | apply Kd.R_alloc | apply Kd.R_drewN | apply Kd.R_drew)); exact h0)) : q := h h0
section
variable {P : Program} {ops : Array Oper} {Q : Exit → Act → World → Prop} {md : Region.Mode} {S : World → Prop} {ds : List Nat}
end
end Go.Proofs.Ytjhfglpgpicmiaa.F
end
section
namespace Go.Proofs.Ytjhfglpgpicmiaa.Opens
open Go.ChangeShapes Go.WideShapes Go.RowKit Go.Deep
open Go.Proofs.YtjhfglpgpicmiaaW.PrintWords

theorem wf_u8 {n : Int} (h : (Lit.int .u8 n).wf = true) : 0 ≤ n ∧ n ≤ 255 := by
  simp only [Lit.wf, Bool.and_eq_true, decide_eq_true_eq] at h
  exact ⟨h.1, h.2⟩
end Go.Proofs.Ytjhfglpgpicmiaa.Opens
end
section
namespace Go.Proofs.Ytjhfglpgpicmiaa.F
open Go.RowKit Go.Shelf Go.Proofs.YtjhfglpgpicmiaaW.PrintWords Go.Proofs.YtjhfglpgpicmiaaW.PrintLast Go.Proofs.YtjhfglpgpicmiaaW.PrintMore
set_option linter.unusedVariables false
set_option linter.unusedSimpArgs false
def givP (a n p : Int) (x : SM) : SM := if withB x.f0 a n = true then ⟨x.f0, p⟩ else x
theorem givP_key (a n p : Int) (x : SM) : mpK (givP a n p x) = mpK x := by
  unfold givP
  split <;> rfl
def protS (l : List SM) (m : List SC) (a n p : Int) : List SM × List SC × Int :=
  if wrongS a n p = true then (l, m, 22) else if ((l.filter (fun x => withB x.f0 a n)).length : Int) < n then (l, m, 2) else (l.map (givP a n p), m, 0)
theorem rises_low {α : Type} {key : α → Int} : ∀ {l : List α} {a : Int}, Rises key l → (∀ x ∈ l, a ≤ key x) → ∀ (j : Nat) (hj : j < l.length), a + (j : Int) ≤ key l[j]
  | [], _, _, _, j, hj => by simp at hj
  | x :: l, a, _, h, 0, hj => by
    have := h x List.mem_cons_self
    simpa using this
  | x :: l, a, hr, h, j + 1, hj => by
    have h1 := h x List.mem_cons_self
    have h2 := rises_low (a := a + 1) (rises_tail key hr) (fun y hy => by have := rises_head key hr y hy; omega) j (by simpa using hj)
    have h3 : (x :: l)[j + 1] = l[j]'(by simpa using hj) := rfl
    rw [h3]
    omega
theorem filter_run {α : Type} (p : α → Bool) : ∀ (d : List α) (r : Nat), r ≤ d.length → (∀ (j : Nat) (hj : j < d.length), p d[j] = decide (j < r)) → (d.filter p).length = r
  | [], r, hr, _ => by simp at hr; simp [hr]
  | x :: d, 0, _, h => by
    have h0 := h 0 (by simp)
    simp only [List.getElem_cons_zero] at h0
    rw [List.filter_cons, h0, decide_eq_false (by omega), if_neg (by decide)]
    exact filter_run p d 0 (Nat.zero_le _) (fun j hj => by
      have := h (j + 1) (by simpa using hj)
      rw [decide_eq_false (by omega)] at this ⊢
      exact this)
  | x :: d, r + 1, hr, h => by
    have h0 := h 0 (by simp)
    simp only [List.getElem_cons_zero] at h0
    rw [List.filter_cons, h0, decide_eq_true (by omega), if_pos rfl, List.length_cons]
    congr 1
    exact filter_run p d r (by simpa using hr) (fun j hj => by
      have := h (j + 1) (by simpa using hj)
      rw [List.getElem_cons_succ] at this
      rw [this]
      exact decide_eq_decide.2 (by omega))
theorem filter_none {α : Type} {p : α → Bool} {l : List α} (h : ∀ x ∈ l, p x = false) : l.filter p = [] := by
  rw [List.filter_eq_nil_iff]
  intro x hx
  rw [h x hx]
  simp
theorem has_map {l : List SM} (f : SM → SM) (hf : ∀ x, mpK (f x) = mpK x) (k : Int) : has mpK k (l.map f) = has mpK k l := by
  unfold has
  rw [List.any_map]
  congr 1
  funext x
  show decide (mpK (f x) = k) = _
  rw [hf]
theorem FitH.protect {l : List SM} {m : List SC} (h : FitH l m) {a n p : Int} (a0 : 0 ≤ a) : FitH (protS l m a n p).1 (protS l m a n p).2.1 := by
  unfold protS
  split
  · exact h
  rename_i hw
  split
  · exact h
  have hw2 : ¬ (n = 0 ∨ a ≥ 1125899906842624 ∨ n > 1125899906842624 - a ∨ p < 0 ∨ p > 7) := by
    unfold wrongS at hw
    simpa only [decide_eq_true_eq] using hw
  refine ⟨rises_map mpK _ (givP_key a n p) h.lr, by rw [List.length_map]; exact h.ln, fun x hx => ?_, h.mr, h.mn, fun x hx => ?_⟩
  · obtain ⟨y, hy, rfl⟩ := List.mem_map.1 hx
    have := h.lp y hy
    unfold givP
    split
    · dsimp only
      omega
    · exact this
  · have := h.mp x hx
    exact ⟨this.1, this.2.1, this.2.2.1, this.2.2.2.1, this.2.2.2.2.1, (has_map _ (givP_key a n p) _).trans this.2.2.2.2.2⟩
end Go.Proofs.Ytjhfglpgpicmiaa.F
end
section
namespace Go.Proofs.Ytjhfglpgpicmiaa.F
open Go.RowKit Go.Shelf Go.Proofs.YtjhfglpgpicmiaaW.PrintWords Go.Proofs.YtjhfglpgpicmiaaW.PrintLast Go.Proofs.YtjhfglpgpicmiaaW.PrintMore
set_option linter.unusedVariables false
-- HAND fn=slices.Clone[[]ferry/api.Page,ferry/api.Page] ; rounds=0 ; making=1 ; laid=0
def api_Page_48.f (l0 : List S39) : Option (List S39) := if l0.length ≤ 1000000 then some l0 else none
theorem api_Page_48.calls (A0 : Option Addr) (c0 : Nat) (l0 : List S39) (r : List S39) (w : World) (hr0 : Kd.C k39 w A0 l0.length l0) (hc0 : l0.length ≤ c0) (h : api_Page_48.f l0 = some r) :
    Calls Try.prog 48 #[.slice A0 l0.length c0] w fun e w' => ∃ v0_ : Value, e = .returned (v0_) ∧ Kd.R k39 39 w' w.heap.size (fun _ => True) v0_ r ∧ Below w.heap.size w w' := by
  unfold api_Page_48.f at h
  split at h
  · rename_i hh
    obtain rfl := Option.some.inj h
    exact pg_clone.calls A0 c0 l0 w hr0 hc0 hh
  · cases h
end Go.Proofs.Ytjhfglpgpicmiaa.F
end
