import Derived.Below
import Derived.Deep.Draws
import Derived.Deep.AppendLies
import Derived.Maps.AppendAt
import Derived.OwnWalk
import Derived.Laws.BytesArg
import Derived.Laws.MakeOwn
import Derived.Laws.OwnMore
import Derived.Deep.OwnRows
import Derived.Tactics
import Derived.Lib.ConvBytes
import Derived.Laws.Slices
import Derived.WalkKit
import Derived.KernelRfl
import Derived.RowKit3
import Derived.Deep.LoopGhost
import Derived.Deep.QuietTactic
import Derived.BigQuiet
import Derived.WideLaws
import Derived.Deep.DeepCutAuto
import Derived.Deep.CutBlock
import Derived.Deep.RegionHeld3
import Derived.Laws.Rows
import Derived.Lib.AppendStr
import Derived.ArgAppend
import Derived.Laws.IdiomCopy
import Derived.RowKit
import Derived.OrdersHeld
import Derived.Laws.BitsLemmas
import Derived.Laws.StructEq
import Derived.OwnWalkIn
import Derived.ProofKit
import Derived.Lib.Hide
import Derived.Shelf.RegionOpen
import Derived.Shelf.Abstract
import Derived.Lib.SliceRun
import Derived.Test.YtlmmipdgedfboaaZF0
import Derived.Test.YtlmmipdgedfboaaYA0Sorted
section
namespace Go.Proofs.Ytlmmipdgedfboaa.F
set_option linter.unusedVariables false
section
variable {α : Type} (key val : α → Int)
theorem look_mem {l : List α} (hr : Rises key l) {x : α} (hx : x ∈ l) : look key val (key x) l = val x := by
  induction l with
  | nil => simp at hx
  | cons y l ih =>
    unfold look
    rcases List.mem_cons.1 hx with rfl | hx
    · exact if_pos rfl
    · have := rises_head key hr x hx
      rw [if_neg (by omega), ih (rises_tail key hr) hx]
theorem look_ext (inj : ∀ x y : α, key x = key y → val x = val y → x = y) : ∀ {l m : List α}, Rises key l → Rises key m → (∀ x ∈ l, val x ≠ 0) → (∀ x ∈ m, val x ≠ 0) → (∀ a, look key val a l = look key val a m) → l = m
  | [], [], _, _, _, _, _ => rfl
  | [], y :: m, _, hm, _, hn, h => by
    have := h (key y)
    unfold look at this
    rw [if_pos rfl] at this
    exact absurd this.symm (hn y List.mem_cons_self)
  | x :: l, [], hl, _, hn, _, h => by
    have := h (key x)
    unfold look at this
    rw [if_pos rfl] at this
    exact absurd this (hn x List.mem_cons_self)
  | x :: l, y :: m, hl, hm, hn, hn', h => by
    have hx := look_mem key val hl (List.mem_cons_self (a := x))
    have hy := look_mem key val hm (List.mem_cons_self (a := y))
    have nx := hn x List.mem_cons_self
    have ny := hn' y List.mem_cons_self
    have e : key x = key y := by
      rcases Int.lt_trichotomy (key x) (key y) with h1 | h1 | h1
      · rw [h (key x), look_none key val (fun z hz => by
          rcases List.mem_cons.1 hz with rfl | hz
          · omega
          · have := rises_head key hm z hz
            omega)] at hx
        exact absurd hx.symm nx
      · exact h1
      · rw [← h (key y), look_none key val (fun z hz => by
          rcases List.mem_cons.1 hz with rfl | hz
          · omega
          · have := rises_head key hl z hz
            omega)] at hy
        exact absurd hy.symm ny
    have ev : val x = val y := by rw [← hx, h, e, hy]
    have exy := inj x y e ev
    subst exy
    congr 1
    refine look_ext inj (rises_tail key hl) (rises_tail key hm) (fun z hz => hn z (List.mem_cons_of_mem _ hz)) (fun z hz => hn' z (List.mem_cons_of_mem _ hz)) (fun a => ?_)
    have ha := h a
    unfold look at ha
    by_cases hk : key x = a
    · rw [look_none key val (fun z hz => by have := rises_head key hl z hz; omega), look_none key val (fun z hz => by have := rises_head key hm z hz; omega)]
    · rw [if_neg hk, if_neg hk] at ha
      exact ha
end
end Go.Proofs.Ytlmmipdgedfboaa.F
end
section
namespace Go.Proofs.Ytlmmipdgedfboaa.F
open Go.RowKit Go.Shelf Go.Proofs.YtlmmipdgedfboaaW.PrintWords Go.Proofs.YtlmmipdgedfboaaW.PrintLast Go.Proofs.YtlmmipdgedfboaaW.PrintMore
set_option linter.unusedVariables false
theorem blk_put2 {w : World} {g : Nat} {t : TypeId} {x y : Value} (h : w.heap[g]? = some (.cells #[x, y] t (0, 0))) (u v : Value) : ((w.setCell ⟨g, 0, none⟩ u).setCell ⟨g, 1, none⟩ v).heap[g]? = some (.cells #[u, v] t (0, 0)) :=
  blk_put (blk_put h 0 u rfl) 1 v rfl
theorem blk_far2 {w : World} {g b : Nat} {t : TypeId} {cs : Array Value} (h : w.heap[g]? = some (.cells cs t (0, 0))) (hn : g ≠ b) (u v : Value) : ((w.setCell ⟨b, 0, none⟩ u).setCell ⟨b, 1, none⟩ v).heap[g]? = some (.cells cs t (0, 0)) :=
  blk_far (blk_far h hn u) hn v
theorem below_set2 {w W : World} {b : Nat} (h : Below w.heap.size w W) (hb : w.heap.size ≤ b) (u v : Value) : Below w.heap.size w ((W.setCell ⟨b, 0, none⟩ u).setCell ⟨b, 1, none⟩ v) := below_set (below_set h hb) hb
end Go.Proofs.Ytlmmipdgedfboaa.F
end
