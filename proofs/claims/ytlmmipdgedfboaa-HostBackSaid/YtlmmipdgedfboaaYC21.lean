import Derived.Below
import Derived.Deep.Draws
import Derived.Deep.AppendLies
import Derived.Maps.AppendAt
import Derived.OwnWalk
import Derived.Laws.BytesArg
import Derived.Laws.MakeOwn
import Derived.Laws.OwnMore
import Derived.Deep.OwnRows
import Derived.Tactics
import Derived.Lib.ConvBytes
import Derived.Laws.Slices
import Derived.WalkKit
import Derived.KernelRfl
import Derived.RowKit3
import Derived.Deep.LoopGhost
import Derived.Deep.QuietTactic
import Derived.BigQuiet
import Derived.WideLaws
import Derived.Deep.DeepCutAuto
import Derived.Deep.CutBlock
import Derived.Deep.RegionHeld3
import Derived.Laws.Rows
import Derived.Lib.AppendStr
import Derived.ArgAppend
import Derived.Laws.IdiomCopy
import Derived.RowKit
import Derived.OrdersHeld
import Derived.Laws.BitsLemmas
import Derived.Laws.StructEq
import Derived.OwnWalkIn
import Derived.WalkSmall
import Derived.Laws.ResultCell
import Derived.ProofKit
import Derived.Lib.Hide
import Derived.Shelf.RegionOpen
import Derived.Shelf.Abstract
import Derived.Lib.SliceRun
import Derived.Shelf.Spec.SlicesInsertGrow
import Derived.OpenShut
import Derived.Deep.Slices
import Derived.SizedLaws
import Derived.Test.YtlmmipdgedfboaaZF0
import Derived.Test.YtlmmipdgedfboaaYA0
import Derived.Test.YtlmmipdgedfboaaYA16HHost11
import Derived.Test.YtlmmipdgedfboaaYA17
section
namespace Go.Proofs.Ytlmmipdgedfboaa.F
open Go.RowKit Go.Shelf Go.Proofs.YtlmmipdgedfboaaW.PrintWords Go.Proofs.YtlmmipdgedfboaaW.PrintLast Go.Proofs.YtlmmipdgedfboaaW.PrintMore
set_option linter.unusedVariables false
set_option linter.unusedSimpArgs false
theorem look_app {α : Type} {key val : α → Int} (a : Int) : ∀ (l m : List α), look key val a (l ++ m) = if has key a l = true then look key val a l else look key val a m
  | [], m => rfl
  | x :: l, m => by
    have hc : ∀ q : List α, look key val a (x :: q) = if key x = a then val x else look key val a q := fun _ => rfl
    rw [List.cons_append, hc, hc]
    by_cases h : key x = a
    · rw [if_pos h, if_pos h, if_pos (by unfold has; rw [List.any_cons, decide_eq_true h, Bool.true_or])]
    · rw [if_neg h, if_neg h, look_app a l m]
      unfold has
      rw [List.any_cons, decide_eq_false h, Bool.false_or]
theorem has_none {α : Type} {key : α → Int} {k : Int} {l : List α} (h : ∀ x ∈ l, key x ≠ k) : has key k l = false := by
  cases e : has key k l with
  | false => rfl
  | true =>
    obtain ⟨x, hx, hk⟩ := has_mem.1 e
    exact absurd hk (h x hx)
end Go.Proofs.Ytlmmipdgedfboaa.F
end
section
namespace Go.Proofs.Ytlmmipdgedfboaa.F
open Go.RowKit Go.Shelf Go.Proofs.YtlmmipdgedfboaaW.PrintWords Go.Proofs.YtlmmipdgedfboaaW.PrintLast Go.Proofs.YtlmmipdgedfboaaW.PrintMore
set_option linter.unusedVariables false
set_option linter.unusedSimpArgs false
theorem FitH.fit_f {l : List SM} {m : List SC} (h : FitH l m) : ferryref03_Fit.f l m = some true := by
  rw [ref_Fit_spec l m ⟨by have := h.ln; omega, by have := h.mn; omega⟩, h.fitR]
end Go.Proofs.Ytlmmipdgedfboaa.F
end
