import Derived.Below
import Derived.Deep.Draws
import Derived.Deep.AppendLies
import Derived.Maps.AppendAt
import Derived.OwnWalk
import Derived.Laws.BytesArg
import Derived.Laws.MakeOwn
import Derived.Laws.OwnMore
import Derived.Deep.OwnRows
import Derived.Tactics
import Derived.Lib.ConvBytes
import Derived.Laws.Slices
import Derived.WalkKit
import Derived.KernelRfl
import Derived.RowKit3
import Derived.Deep.LoopGhost
import Derived.Deep.QuietTactic
import Derived.BigQuiet
import Derived.WideLaws
import Derived.Deep.DeepCutAuto
import Derived.Deep.CutBlock
import Derived.Deep.RegionHeld3
import Derived.Laws.Rows
import Derived.Lib.AppendStr
import Derived.ArgAppend
import Derived.Laws.IdiomCopy
import Derived.RowKit
import Derived.OrdersHeld
import Derived.Laws.BitsLemmas
import Derived.Laws.StructEq
import Derived.WalkLawsBesides
import Derived.Shelf.Abstract
import Derived.Shelf.RegionOpen
import Derived.RangeFuncRecord
import Derived.OwnWalkIn
import Derived.ProofKit
import Derived.Lib.Hide
import Derived.Shelf.Small.Bits
import Derived.Shelf.LaysM
import Derived.Shelf.Strings.Fields
import Derived.Shelf.Strings.Replace
import Derived.Shelf.Strings.SplitShaped
import Derived.Lib.LaidTab
import Derived.Maps.OwnOps
import Derived.WalkSmall
import Derived.Laws.ResultCell
import Derived.Deep.RegionWith
import Derived.Defers
import Derived.Recover
import Derived.Tactics2
import Derived.OpenShut
import Derived.Deep.Slices
import Derived.SizedLaws
import Derived.Lib.ItoaNum
import Derived.Test.YtnddjndgfaefaaaDoorZF0
import Derived.Test.YtnddjndgfaefaaaDoorYA21
import Derived.Test.YtnddjndgfaefaaaDoorYE25
import Derived.Test.YtnddjndgfaefaaaDoorYK31
import Derived.Test.YtnddjndgfaefaaaDoorYP67PAlu5
import Derived.Test.YtnddjndgfaefaaaDoorYP68FFerrylaw09AluTraps
section
namespace Go.Proofs.YtnddjndgfaefaaaDoor.F
open Go.RowKit Go.Proofs.YtnddjndgfaefaaaDoorW.PrintWords Go.Proofs.YtnddjndgfaefaaaDoorW.PrintLast Go.Proofs.YtnddjndgfaefaaaDoorW.PrintMore
def ferrylaw09_AluTraps.Pure : Prop :=
  ∀ (a0 : Int) (a1 : Int), (0 ≤ a0 ∧ a0 ≤ 4294967295) → (0 ≤ a1 ∧ a1 ≤ 4294967295) → ∃ k, ferrylaw09_AluTraps.f k a0 a1 = some true
end Go.Proofs.YtnddjndgfaefaaaDoor.F
end
section
namespace Go.Proofs.YtnddjndgfaefaaaDoor.F
set_option linter.unusedVariables false
set_option linter.unusedSimpArgs false
open Go.RowKit Go.Proofs.YtnddjndgfaefaaaDoorW.PrintWords Go.Proofs.YtnddjndgfaefaaaDoorW.PrintLast Go.Proofs.YtnddjndgfaefaaaDoorW.PrintMore
theorem lb_tge : (⟨#[116, 103, 101]⟩ : ByteArray).toList = [116, 103, 101] := lb _
theorem lb_tgeu : (⟨#[116, 103, 101, 117]⟩ : ByteArray).toList = [116, 103, 101, 117] := lb _
theorem lb_tlt : (⟨#[116, 108, 116]⟩ : ByteArray).toList = [116, 108, 116] := lb _
theorem lb_tltu : (⟨#[116, 108, 116, 117]⟩ : ByteArray).toList = [116, 108, 116, 117] := lb _
theorem lb_teq : (⟨#[116, 101, 113]⟩ : ByteArray).toList = [116, 101, 113] := lb _
theorem lb_tne : (⟨#[116, 110, 101]⟩ : ByteArray).toList = [116, 110, 101] := lb _
theorem tr_of (s t : Int) : alu_Traps.f ⟨#[116, 103, 101]⟩ s t = some (decide (wrap32 s ≥ wrap32 t)) ∧ alu_Traps.f ⟨#[116, 103, 101, 117]⟩ s t = some (decide (s ≥ t)) ∧ alu_Traps.f ⟨#[116, 108, 116]⟩ s t = some (decide (wrap32 s < wrap32 t)) ∧ alu_Traps.f ⟨#[116, 108, 116, 117]⟩ s t = some (decide (s < t)) ∧ alu_Traps.f ⟨#[116, 101, 113]⟩ s t = some (s == t) ∧ alu_Traps.f ⟨#[116, 110, 101]⟩ s t = some (s != t) := by
  refine ⟨?_, ?_, ?_, ?_, ?_, ?_⟩ <;> (unfold alu_Traps.f; simp only [lb_tge, lb_tgeu, lb_tlt, lb_tltu, lb_teq, lb_tne]; rfl)
theorem AluTraps_pure : ferrylaw09_AluTraps.Pure := by
  intro s t hs ht
  refine ⟨40, ?_⟩
  unfold ferrylaw09_AluTraps.f
  obtain ⟨r1, r2, r3, r4, r5, r6⟩ := tr_of s t
  rw [of_slt s t hs.1 hs.2 ht.1 ht.2, of_sltu s t hs.1 hs.2 ht.1 ht.2, of_slt t s ht.1 ht.2 hs.1 hs.2, r1, r2, r3, r4, r5, r6]
  simp only [Option.bind_some]
  have hA := w32_of s hs.1 hs.2
  have hB := w32_of t ht.1 ht.2
  have e1 : (decide (wrap32 s ≥ wrap32 t) == decide (wrap32 s < wrap32 t)) = false := by
    by_cases h : wrap32 s < wrap32 t
    · rw [decide_eq_true h, decide_eq_false (by omega)]; rfl
    · rw [decide_eq_false h, decide_eq_true (by omega)]; rfl
  have e2 : (decide (s ≥ t) == decide (s < t)) = false := by
    by_cases h : s < t
    · rw [decide_eq_true h, decide_eq_false (by omega)]; rfl
    · rw [decide_eq_false h, decide_eq_true (by omega)]; rfl
  have e3 : ((s == t) == (s != t)) = false := by
    cases hh : (s == t) <;> simp [bne, hh]
  rw [e1, if_neg (by decide), e2, if_neg (by decide), e3]
  simp only [ferrylaw09_AluTraps.j0]
  rw [if_neg (by decide), r3, Option.bind_some]
  have f1 : (decide (wrap32 s < wrap32 t) == ((if wrap32 s < wrap32 t then (1 : Int) else 0) == 1)) = true := by
    by_cases h : wrap32 s < wrap32 t
    · rw [decide_eq_true h, if_pos h]; rfl
    · rw [decide_eq_false h, if_neg h]; rfl
  have f2 : (decide (s < t) == ((if s < t then (1 : Int) else 0) == 1)) = true := by
    by_cases h : s < t
    · rw [decide_eq_true h, if_pos h]; rfl
    · rw [decide_eq_false h, if_neg h]; rfl
  have f3 : (((((if wrap32 s < wrap32 t then (1 : Int) else 0) + (if wrap32 t < wrap32 s then 1 else 0)) % 4294967296) == 1) == (s != t)) = true := by
    by_cases he : s = t
    · subst he
      rw [if_neg (by omega)]
      simp
    · have hne : (s != t) = true := bne_iff_ne.2 he
      rw [hne]
      by_cases h : wrap32 s < wrap32 t
      · rw [if_pos h, if_neg (by omega)]; rfl
      · rw [if_neg h, if_pos (by split at hA <;> split at hB <;> omega)]; rfl
  rw [if_pos f1, r4, Option.bind_some, if_pos f2, if_pos f3, r5, Option.bind_some, if_pos (by rw [beq_self_eq_true]), alu_awake]
  rfl
end Go.Proofs.YtnddjndgfaefaaaDoor.F
end
