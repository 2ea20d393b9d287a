import Derived.Below
import Derived.Deep.Draws
import Derived.Deep.AppendLies
import Derived.Maps.AppendAt
import Derived.OwnWalk
import Derived.Laws.BytesArg
import Derived.Laws.MakeOwn
import Derived.Laws.OwnMore
import Derived.Deep.OwnRows
import Derived.Tactics
import Derived.Lib.ConvBytes
import Derived.Laws.Slices
import Derived.WalkKit
import Derived.KernelRfl
import Derived.RowKit3
import Derived.Deep.LoopGhost
import Derived.Deep.QuietTactic
import Derived.BigQuiet
import Derived.WideLaws
import Derived.Deep.DeepCutAuto
import Derived.Deep.CutBlock
import Derived.Deep.RegionHeld3
import Derived.Laws.Rows
import Derived.Lib.AppendStr
import Derived.ArgAppend
import Derived.Laws.IdiomCopy
import Derived.RowKit
import Derived.OrdersHeld
import Derived.Laws.BitsLemmas
import Derived.Laws.StructEq
import Derived.OpenShut
import Derived.ProofKit
import Derived.Deep.Slices
import Derived.SizedLaws
import Derived.Test.YtlmmipdgedfboaaZF0
import Derived.Test.YtlmmipdgedfboaaYA0
section
namespace Go.Proofs.Ytlmmipdgedfboaa.F
set_option linter.unusedVariables false
section
variable {α : Type} (key val : α → Int)
theorem look_mem {l : List α} (hr : Rises key l) {x : α} (hx : x ∈ l) : look key val (key x) l = val x := by
  induction l with
  | nil => simp at hx
  | cons y l ih =>
    unfold look
    rcases List.mem_cons.1 hx with rfl | hx
    · exact if_pos rfl
    · have := rises_head key hr x hx
      rw [if_neg (by omega), ih (rises_tail key hr) hx]
theorem look_ext (inj : ∀ x y : α, key x = key y → val x = val y → x = y) : ∀ {l m : List α}, Rises key l → Rises key m → (∀ x ∈ l, val x ≠ 0) → (∀ x ∈ m, val x ≠ 0) → (∀ a, look key val a l = look key val a m) → l = m
  | [], [], _, _, _, _, _ => rfl
  | [], y :: m, _, hm, _, hn, h => by
    have := h (key y)
    unfold look at this
    rw [if_pos rfl] at this
    exact absurd this.symm (hn y List.mem_cons_self)
  | x :: l, [], hl, _, hn, _, h => by
    have := h (key x)
    unfold look at this
    rw [if_pos rfl] at this
    exact absurd this (hn x List.mem_cons_self)
  | x :: l, y :: m, hl, hm, hn, hn', h => by
    have hx := look_mem key val hl (List.mem_cons_self (a := x))
    have hy := look_mem key val hm (List.mem_cons_self (a := y))
    have nx := hn x List.mem_cons_self
    have ny := hn' y List.mem_cons_self
    have e : key x = key y := by
      rcases Int.lt_trichotomy (key x) (key y) with h1 | h1 | h1
      · rw [h (key x), look_none key val (fun z hz => by
          rcases List.mem_cons.1 hz with rfl | hz
          · omega
          · have := rises_head key hm z hz
            omega)] at hx
        exact absurd hx.symm nx
      · exact h1
      · rw [← h (key y), look_none key val (fun z hz => by
          rcases List.mem_cons.1 hz with rfl | hz
          · omega
          · have := rises_head key hl z hz
            omega)] at hy
        exact absurd hy.symm ny
    have ev : val x = val y := by rw [← hx, h, e, hy]
    have exy := inj x y e ev
    subst exy
    congr 1
    refine look_ext inj (rises_tail key hl) (rises_tail key hm) (fun z hz => hn z (List.mem_cons_of_mem _ hz)) (fun z hz => hn' z (List.mem_cons_of_mem _ hz)) (fun a => ?_)
    have ha := h a
    unfold look at ha
    by_cases hk : key x = a
    · rw [look_none key val (fun z hz => by have := rises_head key hl z hz; omega), look_none key val (fun z hz => by have := rises_head key hm z hz; omega)]
    · rw [if_neg hk, if_neg hk] at ha
      exact ha
end
end Go.Proofs.Ytlmmipdgedfboaa.F
end
section
namespace Go.Proofs.Ytlmmipdgedfboaa.Opens
open Go.ChangeShapes Go.WideShapes Go.RowKit Go.Deep
open Go.Proofs.YtlmmipdgedfboaaW.PrintWords

theorem wf_u8 {n : Int} (h : (Lit.int .u8 n).wf = true) : 0 ≤ n ∧ n ≤ 255 := by
  simp only [Lit.wf, Bool.and_eq_true, decide_eq_true_eq] at h
  exact ⟨h.1, h.2⟩
end Go.Proofs.Ytlmmipdgedfboaa.Opens
end
section
namespace Go.Proofs.Ytlmmipdgedfboaa.F
open Go.RowKit Go.Proofs.YtlmmipdgedfboaaW.PrintWords Go.Proofs.YtlmmipdgedfboaaW.PrintLast Go.Proofs.YtlmmipdgedfboaaW.PrintMore
attribute [local go_sem] max2_int min2_int max_two min_two max_three min_three max_four min_four
set_option linter.unusedVariables false
set_option linter.unusedSimpArgs false

theorem eqA53 (d : Nat) (w : World) (x0 y0 : Int) (x1 y1 : Int) :
    (Op.equalIn (d + 2) 53 (.agg #[.int .u64 x0, .int .i64 x1]) (.agg #[.int .u64 y0, .int .i64 y1])).run Try.prog w = .ok (x0 == y0 && (x1 == y1)) w := by
  refine eqA_of Try.underlying53 (by kernel_rfl) ?_
  refine eqf_cons (by rfl) (by go_simp; rfl) (by go_simp; rfl) (by go_simp) ?_
  exact eqf_last (by rfl) (by go_simp; rfl) (by go_simp; rfl) (by go_simp)
end Go.Proofs.Ytlmmipdgedfboaa.F
end
section
namespace Go.Proofs.Ytlmmipdgedfboaa.F
open Go.RowKit Go.Proofs.YtlmmipdgedfboaaW.PrintWords Go.Proofs.YtlmmipdgedfboaaW.PrintLast Go.Proofs.YtlmmipdgedfboaaW.PrintMore
attribute [local go_sem] max2_int min2_int max_two min_two max_three min_three max_four min_four
set_option linter.unusedVariables false
set_option linter.unusedSimpArgs false

theorem eqA55 (d : Nat) (w : World) (x0 y0 : Int) (x1 y1 : Int) :
    (Op.equalIn (d + 2) 55 (.agg #[.int .u64 x0, .int .u64 x1]) (.agg #[.int .u64 y0, .int .u64 y1])).run Try.prog w = .ok (x0 == y0 && (x1 == y1)) w := by
  refine eqA_of Try.underlying55 (by kernel_rfl) ?_
  refine eqf_cons (by rfl) (by go_simp; rfl) (by go_simp; rfl) (by go_simp) ?_
  exact eqf_last (by rfl) (by go_simp; rfl) (by go_simp; rfl) (by go_simp)
end Go.Proofs.Ytlmmipdgedfboaa.F
end
