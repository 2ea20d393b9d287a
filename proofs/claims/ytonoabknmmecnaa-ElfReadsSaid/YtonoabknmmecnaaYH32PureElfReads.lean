import Derived.Below
import Derived.Deep.Draws
import Derived.Deep.AppendLies
import Derived.Maps.AppendAt
import Derived.OwnWalk
import Derived.Laws.BytesArg
import Derived.Laws.MakeOwn
import Derived.Laws.OwnMore
import Derived.Deep.OwnRows
import Derived.Tactics
import Derived.Lib.ConvBytes
import Derived.Laws.Slices
import Derived.WalkKit
import Derived.KernelRfl
import Derived.RowKit3
import Derived.Deep.LoopGhost
import Derived.Deep.QuietTactic
import Derived.BigQuiet
import Derived.WideLaws
import Derived.Deep.DeepCutAuto
import Derived.Deep.CutBlock
import Derived.Deep.RegionHeld3
import Derived.Laws.Rows
import Derived.Lib.AppendStr
import Derived.ArgAppend
import Derived.Laws.IdiomCopy
import Derived.RowKit
import Derived.OrdersHeld
import Derived.Laws.BitsLemmas
import Derived.Laws.StructEq
import Derived.Shelf.Strings.Builder1
import Derived.Shelf.Strings.BuilderF
import Derived.Shelf.Strings.BuilderK
import Derived.RangeFuncNested
import Derived.RangeFuncBound
import Derived.RangeFuncCalls
import Derived.RangeFuncLeaves
import Derived.RangeFuncWrites
import Derived.Shelf.Abstract
import Derived.Shelf.RegionOpen
import Derived.OwnWalkIn
import Derived.TacticsInMore
import Derived.LoopNIn
import Derived.LoopIn
import Derived.Lib.Hide
import Derived.WalkLawsBesides
import Derived.WalkSmall
import Derived.Laws.ResultCell
import Derived.RangeFuncRecord
import Derived.ProofKit
import Derived.Deep.RegionWith
import Derived.Defers
import Derived.Recover
import Derived.Tactics2
import Derived.Lib.Builder
import Derived.Lib.UnsafeStr
import Derived.StillTailTactics
import Derived.OpenShut
import Derived.Deep.Slices
import Derived.SizedLaws
import Derived.Test.YtonoabknmmecnaaZF0
import Derived.Test.YtonoabknmmecnaaYA5HElf2
import Derived.Test.YtonoabknmmecnaaYA8HElf5
import Derived.Test.YtonoabknmmecnaaYA13
import Derived.Test.YtonoabknmmecnaaYB14
import Derived.Test.YtonoabknmmecnaaYH29FFerrylaw13ElfReads
import Derived.Test.YtonoabknmmecnaaYH30
import Derived.Test.YtonoabknmmecnaaYH31PElf7
section
namespace Go.Proofs.Ytonoabknmmecnaa.F
open Go.RowKit Go.Proofs.YtonoabknmmecnaaW.PrintWords Go.Proofs.YtonoabknmmecnaaW.PrintLast Go.Proofs.YtonoabknmmecnaaW.PrintMore
set_option linter.unusedVariables false
theorem parse_len {b : List UInt8} {sh : Bool} {en : Int} {l : List S39} {c : Int} (h : parseOf (rdParse (mkB b)) = (sh, en, l, c)) : l.length ≤ 16 := by
  cases e : rdParse (mkB b) with
  | error c' =>
    rw [e] at h
    cases h
    decide
  | ok p =>
    obtain ⟨⟨sh', en', l'⟩, s⟩ := p
    have hi := parse_inv e
    rw [e] at h
    cases h
    obtain ⟨_, _, _, hl, _⟩ := hi
    exact hl
theorem ElfReads_pure : ferrylaw13_ElfReads.Pure := by
  intro a0 a1 h0 h1
  obtain ⟨b, rfl, hb⟩ := to_mkB a0
  refine Ev.rounds ?_
  unfold ferrylaw13_ElfReads.f
  rw [mkB_size]
  by_cases hc : (b.length : Int) > 20000
  · refine Ev.congr (fun _ => if_pos hc) ?_
    exact Ev.bind awake_ev (Ev.now _)
  · refine Ev.congr (fun _ => if_neg hc) ?_
    rw [elf_Parse_eq b (by omega)]
    refine Ev.bind (Ev.now _) ?_
    have hp := ref_Parse_ev b (by omega)
    have hl := @parse_len b
    generalize parseOf (rdParse (mkB b)) = r at hp hl ⊢
    obtain ⟨sh, en, l, c⟩ := r
    have hl := hl rfl
    refine Ev.bind hp ?_
    refine Ev.bind (ref_Same_ev _ _ _ _ _ _ (by dsimp only; omega)) ?_
    refine Ev.congr (fun _ => if_pos (by simp)) ?_
    refine Ev.congr (fun _ => if_pos rfl) ?_
    rw [prots_some]
    refine Ev.bind (Ev.now _) ?_
    refine Ev.bind (prots_ev h1.1 h1.2) ?_
    refine Ev.congr (fun _ => if_pos rfl) ?_
    exact Ev.bind awake_ev (Ev.now _)
end Go.Proofs.Ytonoabknmmecnaa.F
end
