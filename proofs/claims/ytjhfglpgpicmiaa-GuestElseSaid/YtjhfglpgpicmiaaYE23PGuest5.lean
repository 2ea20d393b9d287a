import Derived.Below
import Derived.Deep.Draws
import Derived.Deep.AppendLies
import Derived.Maps.AppendAt
import Derived.OwnWalk
import Derived.Laws.BytesArg
import Derived.Laws.MakeOwn
import Derived.Laws.OwnMore
import Derived.Deep.OwnRows
import Derived.Tactics
import Derived.Lib.ConvBytes
import Derived.Laws.Slices
import Derived.WalkKit
import Derived.KernelRfl
import Derived.RowKit3
import Derived.Deep.LoopGhost
import Derived.Deep.QuietTactic
import Derived.BigQuiet
import Derived.WideLaws
import Derived.Deep.DeepCutAuto
import Derived.Deep.CutBlock
import Derived.Deep.RegionHeld3
import Derived.Laws.Rows
import Derived.Lib.AppendStr
import Derived.ArgAppend
import Derived.Laws.IdiomCopy
import Derived.RowKit
import Derived.OrdersHeld
import Derived.Laws.BitsLemmas
import Derived.Laws.StructEq
import Derived.OwnWalkIn
import Derived.WalkSmall
import Derived.Laws.ResultCell
import Derived.ProofKit
import Derived.Lib.Hide
import Derived.Shelf.RegionOpen
import Derived.Shelf.Abstract
import Derived.Lib.SliceRun
import Derived.Shelf.Spec.SlicesInsertGrow
import Derived.OpenShut
import Derived.Deep.Slices
import Derived.SizedLaws
import Derived.RangeFuncNested
import Derived.RangeFuncBound
import Derived.RangeFuncCalls
import Derived.RangeFuncLeaves
import Derived.RangeFuncWrites
import Derived.TacticsInMore
import Derived.LoopNIn
import Derived.LoopIn
import Derived.Stop.RegionWithIn
import Derived.Test.YtjhfglpgpicmiaaZF0
import Derived.Test.YtjhfglpgpicmiaaYA0
import Derived.Test.YtjhfglpgpicmiaaYA11
import Derived.Test.YtjhfglpgpicmiaaYA13
import Derived.Test.YtjhfglpgpicmiaaYA14HGuest4
section
namespace Go.Proofs.Ytjhfglpgpicmiaa.F
open Go.RowKit Go.Shelf Go.Proofs.YtjhfglpgpicmiaaW.PrintWords Go.Proofs.YtjhfglpgpicmiaaW.PrintLast Go.Proofs.YtjhfglpgpicmiaaW.PrintMore
set_option linter.unusedVariables false
set_option linter.unusedSimpArgs false
theorem rises_ext {α : Type} {key : α → Int} : ∀ {l l' : List α}, Rises key l → Rises key l' → (∀ x, x ∈ l ↔ x ∈ l') → l = l'
  | [], [], _, _, _ => rfl
  | [], y :: l', _, _, h => by cases (h y).2 (List.mem_cons_self ..)
  | x :: l, [], _, _, h => by cases (h x).1 (List.mem_cons_self ..)
  | x :: l, y :: l', hr, hr', h => by
    have h1 := rises_head key hr
    have h2 := rises_head key hr'
    have e : x = y := by
      rcases List.mem_cons.1 ((h x).1 (List.mem_cons_self ..)) with e | hx
      · exact e
      · rcases List.mem_cons.1 ((h y).2 (List.mem_cons_self ..)) with e | hy
        · exact e.symm
        · have h3 := h1 y hy
          have h4 := h2 x hx
          omega
    subst e
    congr 1
    refine rises_ext (rises_tail key hr) (rises_tail key hr') (fun z => ⟨fun hz => ?_, fun hz => ?_⟩)
    · rcases List.mem_cons.1 ((h z).1 (List.mem_cons_of_mem _ hz)) with e | h3
      · have h4 := h1 z hz
        rw [e] at h4
        omega
      · exact h3
    · rcases List.mem_cons.1 ((h z).2 (List.mem_cons_of_mem _ hz)) with e | h3
      · have h4 := h2 z hz
        rw [e] at h4
        omega
      · exact h3
theorem clr_none {l : List SM} {m : List SC} (h : FitH l m) {a n : Int} (a0 : 0 ≤ a) (n0 : 0 ≤ n) {c : SC} (hc : c ∈ m) (h1 : c.f0 + 8 ≤ a ∨ a + n ≤ c.f0) : clrC a n c = c := by
  have hm := h.mp c hc
  obtain ⟨y, hy⟩ : ∃ y : Nat, c.f0 = (y : Int) := ⟨c.f0.toNat, by omega⟩
  obtain ⟨v, hv⟩ : ∃ v : Nat, c.f1 = (v : Int) := ⟨c.f1.toNat, by omega⟩
  obtain ⟨a, rfl⟩ : ∃ z : Nat, a = (z : Int) := ⟨a.toNat, by omega⟩
  obtain ⟨n, rfl⟩ : ∃ z : Nat, n = (z : Int) := ⟨n.toNat, by omega⟩
  have h8 : c.f0 % 8 = 0 := hm.2.2.1
  obtain ⟨q, hq, he, hk⟩ := clrW_spec (y := y) (w := v) (by omega) (by rw [p256_8]; omega) a n 8 (Nat.le_refl _)
  have e : clrC (a : Int) (n : Int) c = ⟨c.f0, clrW (a : Int) (n : Int) c.f0 c.f1 8⟩ := rfl
  rw [e, hy, hv, he]
  have : q = v := word_ext hq (by rw [p256_8]; omega) (fun k hk8 => by
    rw [hk k hk8, if_neg (by omega)])
  rw [this]
  show (⟨(y : Int), (v : Int)⟩ : SC) = c
  rw [← hy, ← hv]
theorem clear_mem {l : List SM} {m : List SC} (h : FitH l m) {a n : Int} {c : SC} (hc : c ∈ m) (h1 : clrC a n c = c) : c ∈ clearS m a n := by
  unfold clearS
  refine List.mem_filter.2 ⟨List.mem_map.2 ⟨c, hc, h1⟩, ?_⟩
  have := h.mp c hc
  rw [show (c.f1 == 0) = false from beq_eq_false_iff_ne.2 (by omega)]
  rfl
end Go.Proofs.Ytjhfglpgpicmiaa.F
end
