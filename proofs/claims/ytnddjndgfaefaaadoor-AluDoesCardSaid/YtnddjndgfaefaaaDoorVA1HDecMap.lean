import Derived.Below
import Derived.Deep.Draws
import Derived.Deep.AppendLies
import Derived.Maps.AppendAt
import Derived.OwnWalk
import Derived.Laws.BytesArg
import Derived.Laws.MakeOwn
import Derived.Laws.OwnMore
import Derived.Deep.OwnRows
import Derived.Tactics
import Derived.Lib.ConvBytes
import Derived.Laws.Slices
import Derived.WalkKit
import Derived.KernelRfl
import Derived.RowKit3
import Derived.Deep.LoopGhost
import Derived.Deep.QuietTactic
import Derived.BigQuiet
import Derived.WideLaws
import Derived.Deep.DeepCutAuto
import Derived.Deep.CutBlock
import Derived.Deep.RegionHeld3
import Derived.Laws.Rows
import Derived.Lib.AppendStr
import Derived.ArgAppend
import Derived.Laws.IdiomCopy
import Derived.RowKit
import Derived.OrdersHeld
import Derived.Laws.BitsLemmas
import Derived.Laws.StructEq
import Derived.ProofKit
import Derived.Lib.Hide
import Derived.Maps.OwnOps
import Derived.RangeFuncRecord
import Derived.Test.YtnddjndgfaefaaaDoorVZF0
section
namespace Go.Proofs.YtnddjndgfaefaaaDoor.F
open Go.RowKit Go.Maps Go.ChangeMaps Go.Proofs.YtnddjndgfaefaaaDoorW.PrintWords Go.Proofs.YtnddjndgfaefaaaDoorW.PrintLast Go.Proofs.YtnddjndgfaefaaaDoorW.PrintMore
set_option linter.unusedVariables false
set_option linter.unusedSimpArgs false
theorem bitKeyed : Keyed Tryd.prog 5 := int_keyed Tryd.underlying5
theorem bit_insert (b : Nat) (w : World) (es : Array MapEntry) (clock : Nat) (k v : Int) (hk : (Lit.int .u8 k).wf = true) (hb : w.heap[b]? = some (.map es clock))
    (hf : (Instr.findKey 5 (.int .u8 k) es.toList).run Tryd.prog w = .ok none w) :
    (Instr.mapUpdate 70 (.map (some b)) (.int .u8 k) (.int .u64 v)).run Tryd.prog w = .ok () (setBlock w b (.map (es.push ⟨.int .u8 k, .int .u64 v, clock⟩) (clock + 1))) := by
  have hkey : keyOf Tryd.prog 5 (.int .u8 k) = some (.int .u8 k) := keyOf_int_mk Tryd.underlying5 hk
  simp [Instr.mapUpdate, run_underlying Tryd.underlying70, MapKept.run_getObj_map hb, bitKeyed.check w false hkey, hf, MapKept.run_setObj_map _ hb, Result.andThen, setBlock]
def bitEntries : Array MapEntry := #[⟨.int .u8 115, .int .u64 21, 0⟩, ⟨.int .u8 116, .int .u64 16, 1⟩, ⟨.int .u8 100, .int .u64 11, 2⟩, ⟨.int .u8 97, .int .u64 6, 3⟩]
theorem find0 (w : World) : (Instr.findKey 5 (.int .u8 115) []).run Tryd.prog w = .ok none w := by kernel_rfl
theorem find1 (w : World) : (Instr.findKey 5 (.int .u8 116) [⟨.int .u8 115, .int .u64 21, 0⟩]).run Tryd.prog w = .ok none w := by kernel_rfl
theorem find2 (w : World) : (Instr.findKey 5 (.int .u8 100) [⟨.int .u8 115, .int .u64 21, 0⟩, ⟨.int .u8 116, .int .u64 16, 1⟩]).run Tryd.prog w = .ok none w := by kernel_rfl
theorem find3 (w : World) : (Instr.findKey 5 (.int .u8 97) [⟨.int .u8 115, .int .u64 21, 0⟩, ⟨.int .u8 116, .int .u64 16, 1⟩, ⟨.int .u8 100, .int .u64 11, 2⟩]).run Tryd.prog w = .ok none w := by kernel_rfl
theorem bit_look (b : Nat) (w : World) (hb : w.heap[b]? = some (.map bitEntries 4)) (k v : Int) (i : Nat) (hk : (Lit.int .u8 k).wf = true)
    (hf : (Instr.findKey 5 (.int .u8 k) bitEntries.toList).run Tryd.prog w = .ok (some (i, .int .u64 v)) w) :
    (Instr.lookup 70 (.map (some b)) (.int .u8 k) false).run Tryd.prog w = .ok (.int .u64 v) w := by
  have hkey : keyOf Tryd.prog 5 (.int .u8 k) = some (.int .u8 k) := keyOf_int_mk Tryd.underlying5 hk
  simp [Instr.lookup, run_underlying Tryd.underlying70, MapKept.run_getObj_map hb, bitKeyed.check w bitEntries.isEmpty hkey, hf, Result.andThen]
theorem look115 (b : Nat) (w : World) (hb : w.heap[b]? = some (.map bitEntries 4)) : (Instr.lookup 70 (.map (some b)) (.int .u8 115) false).run Tryd.prog w = .ok (.int .u64 21) w := bit_look b w hb 115 21 0 (by decide) (by kernel_rfl)
theorem look116 (b : Nat) (w : World) (hb : w.heap[b]? = some (.map bitEntries 4)) : (Instr.lookup 70 (.map (some b)) (.int .u8 116) false).run Tryd.prog w = .ok (.int .u64 16) w := bit_look b w hb 116 16 1 (by decide) (by kernel_rfl)
theorem look100 (b : Nat) (w : World) (hb : w.heap[b]? = some (.map bitEntries 4)) : (Instr.lookup 70 (.map (some b)) (.int .u8 100) false).run Tryd.prog w = .ok (.int .u64 11) w := bit_look b w hb 100 11 2 (by decide) (by kernel_rfl)
theorem look97 (b : Nat) (w : World) (hb : w.heap[b]? = some (.map bitEntries 4)) : (Instr.lookup 70 (.map (some b)) (.int .u8 97) false).run Tryd.prog w = .ok (.int .u64 6) w := bit_look b w hb 97 6 3 (by decide) (by kernel_rfl)
theorem set_below (w w' : World) (b : Nat) (es : Array MapEntry) (clock : Nat) (o : Obj) (hb : w'.heap[b]? = some (.map es clock)) (hB : Below b w w') : Below b w (setBlock w' b o) :=
  ⟨hB.1, hB.2, hB.3, by simpa [setBlock] using hB.4, fun j hj => (heap_setBlock_other hb o (by omega)).trans (hB.5 j hj)⟩
set_option maxHeartbeats 4000000 in
theorem dec_where.calls (w : World) :
    Calls Tryd.prog 51 #[] w fun e w' => e = .returned (.map (some w.heap.size)) ∧ w'.heap[w.heap.size]? = some (.map bitEntries 4) ∧ Below w.heap.size w w' := by
  have hb0 : (w.alloc (.map #[] 0)).heap[w.heap.size]? = some (.map #[] 0) := World.alloc_heap_new w _
  have hB0 : Below w.heap.size w (w.alloc (.map #[] 0)) := (Below.refl _ w).alloc (Nat.le_refl _) _
  have hmm := @run_makeMap Tryd.prog 70 w
  generalize w.heap.size = B at hb0 hB0 hmm ⊢
  generalize w.alloc (.map #[] 0) = w0 at hb0 hB0 hmm
  have e1 := bit_insert B _ _ _ 115 21 (by decide) hb0 (find0 _)
  have hb1 := heap_setBlock_same hb0 (.map (#[].push ⟨.int .u8 115, .int .u64 21, 0⟩) (0 + 1))
  have hB1 := set_below _ _ _ _ _ (.map (#[].push ⟨.int .u8 115, .int .u64 21, 0⟩) (0 + 1)) hb0 hB0
  generalize setBlock w0 B _ = w1 at e1 hb1 hB1
  have e2 := bit_insert B _ _ _ 116 16 (by decide) hb1 (find1 _)
  have hb2 := heap_setBlock_same hb1 (.map ((#[].push ⟨.int .u8 115, .int .u64 21, 0⟩).push ⟨.int .u8 116, .int .u64 16, 1⟩) 2)
  have hB2 := set_below _ _ _ _ _ (.map ((#[].push ⟨.int .u8 115, .int .u64 21, 0⟩).push ⟨.int .u8 116, .int .u64 16, 1⟩) 2) hb1 hB1
  generalize setBlock w1 B _ = w2 at e2 hb2 hB2
  have e3 := bit_insert B _ _ _ 100 11 (by decide) hb2 (find2 _)
  have hb3 := heap_setBlock_same hb2 (.map (((#[].push ⟨.int .u8 115, .int .u64 21, 0⟩).push ⟨.int .u8 116, .int .u64 16, 1⟩).push ⟨.int .u8 100, .int .u64 11, 2⟩) 3)
  have hB3 := set_below _ _ _ _ _ (.map (((#[].push ⟨.int .u8 115, .int .u64 21, 0⟩).push ⟨.int .u8 116, .int .u64 16, 1⟩).push ⟨.int .u8 100, .int .u64 11, 2⟩) 3) hb2 hB2
  generalize setBlock w2 B _ = w3 at e3 hb3 hB3
  have e4 := bit_insert B _ _ _ 97 6 (by decide) hb3 (find3 _)
  have hb4 := heap_setBlock_same hb3 (.map bitEntries 4)
  have hB4 := set_below _ _ _ _ _ (.map bitEntries 4) hb3 hB3
  replace e4 : _ = Result.ok () (setBlock w3 B (.map bitEntries 4)) := e4
  generalize setBlock w3 B _ = w4 at e4 hb4 hB4
  go_enter Tryd.func51, Tryd.ntmps51
  go_wp2
  go_ret
  exact ⟨rfl, hb4, hB4⟩
def fieldNo (c : Int) : Nat := if c = 115 then 1 else if c = 116 then 2 else if c = 100 then 3 else 4
set_option maxHeartbeats 4000000 in
theorem dec_field.calls (B : Nat) (c : Int) (w : World) (k : Nat) (hk : fieldNo c = k) :
    Calls Tryd.prog 54 #[.pointer (some ⟨B, 0, none⟩), .int .u8 c] w fun e w' => e = .returned (.pointer (some ⟨B, k, none⟩)) ∧ w' = w := by
  unfold fieldNo at hk
  by_cases h1 : c = 115
  · rw [if_pos h1] at hk
    subst hk h1
    go_enter Tryd.func54, Tryd.ntmps54
    go_wp2
    go_ret
    exact ⟨rfl, rfl⟩
  rw [if_neg h1] at hk
  have b1 : (c == 115) = false := beq_eq_false_iff_ne.2 h1
  by_cases h2 : c = 116
  · rw [if_pos h2] at hk
    subst hk h2
    go_enter Tryd.func54, Tryd.ntmps54
    go_wp2
    go_ret
    exact ⟨rfl, rfl⟩
  rw [if_neg h2] at hk
  have b2 : (c == 116) = false := beq_eq_false_iff_ne.2 h2
  by_cases h3 : c = 100
  · rw [if_pos h3] at hk
    subst hk h3
    go_enter Tryd.func54, Tryd.ntmps54
    go_wp2
    go_ret
    exact ⟨rfl, rfl⟩
  rw [if_neg h3] at hk
  have b3 : (c == 100) = false := beq_eq_false_iff_ne.2 h3
  subst hk
  clear h1 h2 h3
  go_enter Tryd.func54, Tryd.ntmps54
  go_wp2
  go_ret
  exact ⟨rfl, rfl⟩
end Go.Proofs.YtnddjndgfaefaaaDoor.F
end
