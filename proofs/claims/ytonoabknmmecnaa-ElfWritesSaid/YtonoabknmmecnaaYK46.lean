import Derived.Below
import Derived.Deep.Draws
import Derived.Deep.AppendLies
import Derived.Maps.AppendAt
import Derived.OwnWalk
import Derived.Laws.BytesArg
import Derived.Laws.MakeOwn
import Derived.Laws.OwnMore
import Derived.Deep.OwnRows
import Derived.Tactics
import Derived.Lib.ConvBytes
import Derived.Laws.Slices
import Derived.WalkKit
import Derived.KernelRfl
import Derived.RowKit3
import Derived.Deep.LoopGhost
import Derived.Deep.QuietTactic
import Derived.BigQuiet
import Derived.WideLaws
import Derived.Deep.DeepCutAuto
import Derived.Deep.CutBlock
import Derived.Deep.RegionHeld3
import Derived.Laws.Rows
import Derived.Lib.AppendStr
import Derived.ArgAppend
import Derived.Laws.IdiomCopy
import Derived.RowKit
import Derived.OrdersHeld
import Derived.Laws.BitsLemmas
import Derived.Laws.StructEq
import Derived.Shelf.Strings.Builder1
import Derived.Shelf.Strings.BuilderF
import Derived.Shelf.Strings.BuilderK
import Derived.RangeFuncNested
import Derived.RangeFuncBound
import Derived.RangeFuncCalls
import Derived.RangeFuncLeaves
import Derived.RangeFuncWrites
import Derived.Shelf.Abstract
import Derived.Shelf.RegionOpen
import Derived.OwnWalkIn
import Derived.TacticsInMore
import Derived.LoopNIn
import Derived.LoopIn
import Derived.Lib.Hide
import Derived.WalkLawsBesides
import Derived.WalkSmall
import Derived.Laws.ResultCell
import Derived.RangeFuncRecord
import Derived.ProofKit
import Derived.Deep.RegionWith
import Derived.Defers
import Derived.Recover
import Derived.Tactics2
import Derived.Lib.Builder
import Derived.Lib.UnsafeStr
import Derived.StillTailTactics
import Derived.OpenShut
import Derived.Deep.Slices
import Derived.SizedLaws
import Derived.Test.YtonoabknmmecnaaZF0
import Derived.Test.YtonoabknmmecnaaYA5HElf2
import Derived.Test.YtonoabknmmecnaaYA7HElf4
import Derived.Test.YtonoabknmmecnaaYA13
import Derived.Test.YtonoabknmmecnaaYC17
import Derived.Test.YtonoabknmmecnaaYE24PElf6
import Derived.Test.YtonoabknmmecnaaYK44
import Derived.Test.YtonoabknmmecnaaYK45FFerrylaw13ElfWrites
section
namespace Go.Proofs.Ytonoabknmmecnaa.F
open Go.RowKit Go.Proofs.YtonoabknmmecnaaW.PrintWords Go.Proofs.YtonoabknmmecnaaW.PrintLast Go.Proofs.YtonoabknmmecnaaW.PrintMore
def ferrylaw13_ElfWrites.Pure : Prop :=
  ∀ (a0_0 : Bool) (a0_1 : Int) (l0_2 : List (S39)) (a1_0 : Bool) (a1_1 : Int) (l1_2 : List (S39)), (0 ≤ a0_1 ∧ a0_1 ≤ 4294967295) → (l0_2.length ≤ 9223372036854775807 ∧ ∀ x_ ∈ l0_2, wfS39 x_) → (0 ≤ a1_1 ∧ a1_1 ≤ 4294967295) → (l1_2.length ≤ 9223372036854775807 ∧ ∀ x_ ∈ l1_2, wfS39 x_) → ∃ k, ferrylaw13_ElfWrites.f k a0_0 a0_1 l0_2 a1_0 a1_1 l1_2 = some true
end Go.Proofs.Ytonoabknmmecnaa.F
end
section
namespace Go.Proofs.Ytonoabknmmecnaa.F
open Go.RowKit Go.Proofs.YtonoabknmmecnaaW.PrintWords Go.Proofs.YtonoabknmmecnaaW.PrintLast Go.Proofs.YtonoabknmmecnaaW.PrintMore
set_option linter.unusedVariables false
theorem ElfWrites_pure : ferrylaw13_ElfWrites.Pure := by
  intro sh en l sh' en' m h0 hl h1 hm
  refine Ev.rounds ?_
  unfold ferrylaw13_ElfWrites.f
  have yes : Ev (fun k => ferrylaw13_ElfWrites.j0 k true sh en l sh' en' m) true := by
    refine Ev.step (fun _ => rfl) ?_
    simp only [ferrylaw13_ElfWrites.j0, if_true]
    exact Ev.bind awake_ev (Ev.now _)
  by_cases c1 : (l.length : Int) > 40
  · exact Ev.congr (fun _ => if_pos c1) yes
  refine Ev.congr (fun _ => if_neg c1) ?_
  by_cases c2 : (m.length : Int) > 40
  · rw [decide_eq_true c2]
    exact yes
  rw [decide_eq_false c2]
  refine Ev.step (fun _ => rfl) ?_
  simp only [ferrylaw13_ElfWrites.j0, Bool.false_eq_true, if_false]
  rw [elf_Fit_eq]
  refine Ev.bind (Ev.now _) ?_
  refine Ev.bind (ref_Fit_ev sh en l hl.2 (by omega)) ?_
  refine Ev.congr (fun _ => if_pos (beq_self_eq_true _)) ?_
  rw [elf_Write_eq]
  refine Ev.bind (Ev.now _) ?_
  refine Ev.bind (ref_Write_ev sh en l h0 hl.2 (by omega)) ?_
  refine Ev.congr (fun _ => if_pos rfl) ?_
  refine Ev.bind (elf_Same_ev _ _ _ _ _ _ (by omega)) ?_
  refine Ev.bind (ref_Same_ev _ _ _ _ _ _ (by omega)) ?_
  refine Ev.congr (fun _ => if_pos (beq_self_eq_true _)) ?_
  refine Ev.bind (elf_Same_ev _ _ _ _ _ _ (by omega)) ?_
  refine Ev.congr (fun _ => if_pos (by simp)) ?_
  exact Ev.bind awake_ev (Ev.now _)
end Go.Proofs.Ytonoabknmmecnaa.F
end
