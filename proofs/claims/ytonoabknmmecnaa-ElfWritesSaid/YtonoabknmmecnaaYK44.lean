import Derived.Below
import Derived.Deep.Draws
import Derived.Deep.AppendLies
import Derived.Maps.AppendAt
import Derived.OwnWalk
import Derived.Laws.BytesArg
import Derived.Laws.MakeOwn
import Derived.Laws.OwnMore
import Derived.Deep.OwnRows
import Derived.Tactics
import Derived.Lib.ConvBytes
import Derived.Laws.Slices
import Derived.WalkKit
import Derived.KernelRfl
import Derived.RowKit3
import Derived.Deep.LoopGhost
import Derived.Deep.QuietTactic
import Derived.BigQuiet
import Derived.WideLaws
import Derived.Deep.DeepCutAuto
import Derived.Deep.CutBlock
import Derived.Deep.RegionHeld3
import Derived.Laws.Rows
import Derived.Lib.AppendStr
import Derived.ArgAppend
import Derived.Laws.IdiomCopy
import Derived.RowKit
import Derived.OrdersHeld
import Derived.Laws.BitsLemmas
import Derived.Laws.StructEq
import Derived.Shelf.Strings.Builder1
import Derived.Shelf.Strings.BuilderF
import Derived.Shelf.Strings.BuilderK
import Derived.RangeFuncNested
import Derived.RangeFuncBound
import Derived.RangeFuncCalls
import Derived.RangeFuncLeaves
import Derived.RangeFuncWrites
import Derived.Shelf.Abstract
import Derived.Shelf.RegionOpen
import Derived.OwnWalkIn
import Derived.TacticsInMore
import Derived.LoopNIn
import Derived.LoopIn
import Derived.Lib.Hide
import Derived.WalkLawsBesides
import Derived.WalkSmall
import Derived.Laws.ResultCell
import Derived.RangeFuncRecord
import Derived.ProofKit
import Derived.Deep.RegionWith
import Derived.Defers
import Derived.Recover
import Derived.Tactics2
import Derived.Lib.Builder
import Derived.Lib.UnsafeStr
import Derived.StillTailTactics
import Derived.OpenShut
import Derived.Deep.Slices
import Derived.SizedLaws
import Derived.Test.YtonoabknmmecnaaZF0
import Derived.Test.YtonoabknmmecnaaYA5HElf2
import Derived.Test.YtonoabknmmecnaaYA6HElf3
import Derived.Test.YtonoabknmmecnaaYA7HElf4
import Derived.Test.YtonoabknmmecnaaYA13
import Derived.Test.YtonoabknmmecnaaYK42FApiSeg35
import Derived.Test.YtonoabknmmecnaaYK43FElfSame
section
namespace Go.Proofs.Ytonoabknmmecnaa.F
open Go.RowKit Go.Proofs.YtonoabknmmecnaaW.PrintWords Go.Proofs.YtonoabknmmecnaaW.PrintLast Go.Proofs.YtonoabknmmecnaaW.PrintMore
set_option linter.unusedVariables false
set_option linter.unusedSimpArgs false
theorem equal_l (l m : List S39) (hl : l.length = m.length) (hb : l.length < 1000000) : ∀ (d i : Nat), i + d = l.length → Ev (fun k => api_Seg_35.l0 k l m (l.length : Int) (i : Int)) (decide (l.drop i = m.drop i))
  -- by segDec
  | 0, i, h => by
    refine Ev.step (fun _ => rfl) ?_
    simp only [api_Seg_35.l0]
    have e : l.drop i = m.drop i := by rw [List.drop_eq_nil_of_le (by omega), List.drop_eq_nil_of_le (by omega)]
    rw [decide_eq_true e]
    simp only [if_neg (show ¬ ((i : Int) < (l.length : Int)) by omega)]
    exact Ev.now _
  | d + 1, i, h => by
    have ih := equal_l l m hl hb d (i + 1) (by omega)
    refine Ev.step (fun _ => rfl) ?_
    simp only [api_Seg_35.l0, if_pos (show ((i : Int) < (l.length : Int)) by omega), if_pos (show (0 : Int) ≤ (i : Int) by omega), if_pos (show ((i : Int) < (m.length : Int)) by omega), w64_id (show -9223372036854775808 ≤ (i : Int) + 1 by omega) (by omega)]
    rw [rd_seg (show i < l.length by omega), rd_seg (show i < m.length by omega)]
    by_cases he : l[i] = m[i]
    · have hc := mt (seg_ne l[i] m[i]).1 (fun h => h he)
      simp only [if_neg hc]
      have e : decide (l.drop i = m.drop i) = decide (l.drop (i + 1) = m.drop (i + 1)) := by
        rw [decide_eq_decide, drop_eq_iff (by omega) (by omega)]
        exact ⟨fun hh => hh.2, fun hh => ⟨he, hh⟩⟩
      rw [e]
      exact ih
    · simp only [if_pos ((seg_ne l[i] m[i]).2 he)]
      have e : decide (l.drop i = m.drop i) = false := by
        rw [decide_eq_false_iff_not, drop_eq_iff (by omega) (by omega)]
        exact fun hh => he hh.1
      rw [e]
      exact Ev.now _
theorem elf_Same_ev (sh sh' : Bool) (en en' : Int) (l m : List S39) (hb : l.length < 1000000) : Ev (fun k => elf_Same.f k sh en l sh' en' m) (decide (sh = sh' ∧ en = en' ∧ l = m)) := by
  -- by segDec
  unfold elf_Same.f
  by_cases h1 : sh = sh'
  · subst h1
    simp only [beq_self_eq_true, if_true]
    by_cases h2 : en = en'
    · subst h2
      simp only [if_pos]
      unfold api_Seg_35.f
      by_cases h3 : l.length = m.length
      · simp only [if_pos (show (l.length : Int) = (m.length : Int) by omega)]
        have := equal_l l m h3 hb l.length 0 (by omega)
        refine Ev.bind (a := decide (l = m)) (by simpa using this) ?_
        simp only [true_and]
        exact Ev.now _
      · simp only [if_neg (show ¬ (l.length : Int) = (m.length : Int) by omega)]
        rw [decide_eq_false (by rintro ⟨_, _, rfl⟩; exact h3 rfl)]
        exact Ev.now _
    · simp only [if_neg h2]
      rw [decide_eq_false (fun hh => h2 hh.2.1)]
      exact Ev.now _
  · have e : (sh == sh') = false := by simpa using h1
    simp only [e, Bool.false_eq_true, if_false]
    rw [decide_eq_false (fun hh => h1 hh.1)]
    exact Ev.now _
end Go.Proofs.Ytonoabknmmecnaa.F
end
section
namespace Go.Proofs.Ytonoabknmmecnaa.F
open Go.RowKit Go.Proofs.YtonoabknmmecnaaW.PrintWords Go.Proofs.YtonoabknmmecnaaW.PrintLast Go.Proofs.YtonoabknmmecnaaW.PrintMore
set_option linter.unusedVariables false
set_option linter.unusedSimpArgs false
theorem elf_Fit_eq (sh : Bool) (en : Int) (l : List S39) : elf_Fit.f sh en l = some (decide (l.length ≤ 16) && !(l.any unfit)) := by
  unfold elf_Fit.f
  by_cases h : l.length ≤ 16 <;> simp [h]
end Go.Proofs.Ytonoabknmmecnaa.F
end
