import Derived.Below
import Derived.Deep.Draws
import Derived.Deep.AppendLies
import Derived.Maps.AppendAt
import Derived.OwnWalk
import Derived.Laws.BytesArg
import Derived.Laws.MakeOwn
import Derived.Laws.OwnMore
import Derived.Deep.OwnRows
import Derived.Tactics
import Derived.Lib.ConvBytes
import Derived.Laws.Slices
import Derived.WalkKit
import Derived.KernelRfl
import Derived.RowKit3
import Derived.Deep.LoopGhost
import Derived.Deep.QuietTactic
import Derived.BigQuiet
import Derived.WideLaws
import Derived.Deep.DeepCutAuto
import Derived.Deep.CutBlock
import Derived.Deep.RegionHeld3
import Derived.Laws.Rows
import Derived.Lib.AppendStr
import Derived.ArgAppend
import Derived.Laws.IdiomCopy
import Derived.RowKit
import Derived.OrdersHeld
import Derived.Laws.BitsLemmas
import Derived.Laws.StructEq
import Derived.OwnWalkIn
import Derived.ProofKit
import Derived.Lib.Hide
import Derived.Shelf.RegionOpen
import Derived.Shelf.Abstract
import Derived.Lib.SliceRun
import Derived.Test.YtlmmipdgedfboaaZF0
import Derived.Test.YtlmmipdgedfboaaYA1Slc
section
namespace Go.Proofs.Ytlmmipdgedfboaa.F
open Go.RowKit Go.Shelf Go.Proofs.YtlmmipdgedfboaaW.PrintWords Go.Proofs.YtlmmipdgedfboaaW.PrintLast Go.Proofs.YtlmmipdgedfboaaW.PrintMore
set_option linter.unusedVariables false
def Chain : List World → World → Prop
  | [], _ => True
  | w :: ws, W => Below w.heap.size w W ∧ Chain ws W
theorem Chain.step : ∀ {ws : List World} {W W' : World}, Chain ws W → Below W.heap.size W W' → Chain ws W'
  | [], _, _, _, _ => trivial
  | _ :: _, _, _, h, hb => ⟨h.1.trans (hb.mono h.1.size), Chain.step h.2 hb⟩
theorem Chain.head {w : World} {ws : List World} {W : World} (h : Chain (w :: ws) W) : Below w.heap.size w W := h.1
theorem Chain.tail {w : World} {ws : List World} {W : World} (h : Chain (w :: ws) W) : Chain ws W := h.2
theorem Chain.push {ws : List World} {W : World} (h : Chain ws W) : Chain (W :: ws) W := ⟨Below.refl _ _, h⟩
theorem below_new (W : World) (o : Obj) : Below W.heap.size W (W.alloc o) := (Below.refl _ W).alloc (Nat.le_refl _) o
theorem below_d (W : World) : Below W.heap.size W W.drew := below_drew (Below.refl _ _)
theorem Chain.alloc {ws : List World} {W : World} (h : Chain ws W) (o : Obj) : Chain ws (W.alloc o) := h.step (below_new W o)
theorem Chain.drew {ws : List World} {W : World} (h : Chain ws W) : Chain ws W.drew := h.step (below_d W)
theorem box_cell {w W : World} {b : Nat} {cs : Array Value} {t : TypeId} {fr : Nat × Nat} (k : w.heap[b]? = some (.cells cs t fr)) (h : Below w.heap.size w W) (j : Nat) : W.cell? ⟨b, j, none⟩ = cs[j]? := sblk_cell (blk_below k h) j
def SlV {α : Type} (d : Kd α) (W : World) (v : Value) (l : List α) : Prop := ∃ A c, v = .slice A l.length c ∧ l.length ≤ c ∧ Kd.C d W A l.length l
theorem SlV.below {α : Type} {d : Kd α} {W W' : World} {v : Value} {l : List α} (h : SlV d W v l) (hb : Below W.heap.size W W') : SlV d W' v l := by
  obtain ⟨A, c, e, hc, hC⟩ := h
  exact ⟨A, c, e, hc, Kd.C_below hC hb⟩
theorem SlV.mk {α : Type} {d : Kd α} {W : World} {A : Option Addr} {l : List α} {c : Nat} (hC : Kd.C d W A l.length l) (hc : l.length ≤ c) : SlV d W (.slice A l.length c) l := ⟨A, c, rfl, hc, hC⟩
theorem SlV.view {α : Type} {d : Kd α} {W : World} {A : Option Addr} {l : List α} {c : Nat} (hd : Kd.Heap d) (e base : Nat) (hC : Kd.C d W A l.length l) (hc : l.length ≤ c) : Kd.V d e W base (fun _ => True) (.slice A l.length c) l :=
  Kd.V_mk hc (Kd.F_mono (Kd.C_F hd hC) (fun _ _ => trivial))
theorem SlV.of_view {α : Type} {d : Kd α} {e base : Nat} {W : World} {ok : Nat → Prop} {v : Value} {l : List α} (h : Kd.V d e W base ok v l) : SlV d W v l := by
  obtain ⟨A, c, ev, hc, hF⟩ := h
  exact ⟨A, c, ev, hc, Kd.F_now hF⟩
theorem SlV.nil {α : Type} (d : Kd α) (W : World) : SlV d W (.slice none 0 0) [] := ⟨none, 0, rfl, Nat.le_refl _, Kd.C_nil d W⟩
end Go.Proofs.Ytlmmipdgedfboaa.F
end
