import Derived.Below
import Derived.Deep.Draws
import Derived.Deep.AppendLies
import Derived.Maps.AppendAt
import Derived.OwnWalk
import Derived.Laws.BytesArg
import Derived.Laws.MakeOwn
import Derived.Laws.OwnMore
import Derived.Deep.OwnRows
import Derived.Tactics
import Derived.Lib.ConvBytes
import Derived.Laws.Slices
import Derived.WalkKit
import Derived.KernelRfl
import Derived.RowKit3
import Derived.Deep.LoopGhost
import Derived.Deep.QuietTactic
import Derived.BigQuiet
import Derived.WideLaws
import Derived.Deep.DeepCutAuto
import Derived.Deep.CutBlock
import Derived.Deep.RegionHeld3
import Derived.Laws.Rows
import Derived.Lib.AppendStr
import Derived.ArgAppend
import Derived.Laws.IdiomCopy
import Derived.RowKit
import Derived.OrdersHeld
import Derived.Laws.BitsLemmas
import Derived.Laws.StructEq
import Derived.OwnWalkIn
import Derived.WalkSmall
import Derived.Laws.ResultCell
import Derived.ProofKit
import Derived.Lib.Hide
import Derived.Shelf.RegionOpen
import Derived.Shelf.Abstract
import Derived.Lib.SliceRun
import Derived.Shelf.Spec.SlicesInsertGrow
import Derived.OpenShut
import Derived.Deep.Slices
import Derived.SizedLaws
import Derived.Test.YtlmmipdgedfboaaZF0
import Derived.Test.YtlmmipdgedfboaaYA7Slc
import Derived.Test.YtlmmipdgedfboaaYA8HHost1
import Derived.Test.YtlmmipdgedfboaaYA17
import Derived.Test.YtlmmipdgedfboaaYB19HHost1
section
namespace Go.Proofs.Ytlmmipdgedfboaa.F
open Go.RowKit Go.Shelf Go.Proofs.YtlmmipdgedfboaaW.PrintWords Go.Proofs.YtlmmipdgedfboaaW.PrintLast Go.Proofs.YtlmmipdgedfboaaW.PrintMore
set_option linter.unusedVariables false
set_option linter.unusedSimpArgs false
set_option maxHeartbeats 4000000 in
theorem cl_delf_nil.calls (pf : Nat) (cp : Array Value) (eg : ∀ args w, (callFunc pf args).run Try.prog w = .ok (.enter pf args) w) (w : World) :
    Calls Try.prog 37 #[.slice none 0 0, .func (.func pf) #[] cp] w fun e w' => e = .returned (.slice none 0 0) ∧ Below w.heap.size w w' := by
  have IX : Hid (Calls Try.prog 64 #[.slice none 0 0, .func (.func pf) #[] cp] w fun e w' => e = .returned (.int .i64 (-1)) ∧ Below w.heap.size w w') := by
    refine Lib.hid ?_
    go_enter Try.func64, Try.ntmps64
    go_wp2
    go_loopw [8] (fun t wr => t = .int .i64 0 ∧ wr = w) (fun _ _ => 0)
    case atStart => exact ⟨rfl, rfl⟩
    case round =>
      obtain ⟨rfl, rfl⟩ := hrel
      go_wp2
      go_ret
      exact ⟨rfl, Below.refl _ _⟩
  go_enter Try.func37, Try.ntmps37
  go_wp2_with (go_at_call 64; (with_reducible refine IX.out.mono ?_); rintro e w1 ⟨rfl, hb⟩)
  go_ret
  exact ⟨rfl, hb⟩
theorem cl_delfR.calls (p : S55 → Bool) (pf : Nat) (cp : Array Value) (eg : ∀ args w, (callFunc pf args).run Try.prog w = .ok (.enter pf args) w) (B : Nat) (ok : Nat → Prop) (v : Value) (l : List S55) (w : World) (hR : Kd.R k55 55 w B ok v l) (hB : B ≤ w.heap.size) (hl : l.length ≤ 1000000)
    (HP : ∀ (x : S55) (W : World), (∀ k, k < B → W.heap[k]? = w.heap[k]?) → w.heap.size ≤ W.heap.size → Calls Try.prog pf (#[.agg #[.int .u64 x.f0, .int .u64 x.f1]] ++ cp) W fun e w' => e = .returned (.bool (p x)) ∧ Below W.heap.size W w') :
    Calls Try.prog 37 #[v, .func (.func pf) #[] cp] w fun ex w' => ∃ v', ex = .returned v' ∧ Kd.R k55 55 w' B (fun _ => True) v' (l.filter (fun x => !p x)) ∧ Below B w w' := by
  rcases cl_own hR with ⟨rfl, rfl⟩ | ⟨g, cap, rfl, hg, ho⟩
  · refine (cl_delf_nil.calls pf cp eg w).mono ?_
    rintro e w' ⟨rfl, hb⟩
    exact ⟨_, rfl, Kd.R_nil _ _ _ _ _, hb.mono hB⟩
  · refine (cl_delf.calls p pf cp eg g cap l w ho hl (fun x W hW => HP x W (fun k hk => hW.block k (by omega) (fun e => by injection e with e; omega)) hW.size)).mono ?_
    rintro e w' ⟨rfl, h1, h2⟩
    exact ⟨_, rfl, cl_R h1 hg, below_of_grown (Below.refl _ _) h2 hg hB⟩
end Go.Proofs.Ytlmmipdgedfboaa.F
end
section
namespace Go.Proofs.Ytlmmipdgedfboaa.F
open Go.RowKit Go.Shelf Go.Proofs.YtlmmipdgedfboaaW.PrintWords Go.Proofs.YtlmmipdgedfboaaW.PrintLast Go.Proofs.YtlmmipdgedfboaaW.PrintMore
set_option linter.unusedVariables false
set_option linter.unusedSimpArgs false
theorem askS_all {l : List SM} {a need : Int} (a0 : 0 ≤ a) : ∀ {r : Nat} {i : Int}, 0 ≤ i → (∀ j : Int, i ≤ j → j < i + r → a + j < 18446744073709551616 ∧ faultS l (a + j) need = 0) → askS l a need r i = (0, 0)
  | 0, i, _, _ => rfl
  | r + 1, i, i0, h => by
    obtain ⟨h1, h2⟩ := h i (Int.le_refl _) (by omega)
    have e : (a + i) % 18446744073709551616 = a + i := by omega
    unfold askS
    rw [e, if_neg (by omega), if_pos h2]
    exact askS_all a0 (by omega) (fun j h3 h4 => h j (by omega) (by omega))
end Go.Proofs.Ytlmmipdgedfboaa.F
end
