import Derived.Below
import Derived.Deep.Draws
import Derived.Deep.AppendLies
import Derived.Maps.AppendAt
import Derived.OwnWalk
import Derived.Laws.BytesArg
import Derived.Laws.MakeOwn
import Derived.Laws.OwnMore
import Derived.Deep.OwnRows
import Derived.Tactics
import Derived.Lib.ConvBytes
import Derived.Laws.Slices
import Derived.WalkKit
import Derived.KernelRfl
import Derived.RowKit3
import Derived.Deep.LoopGhost
import Derived.Deep.QuietTactic
import Derived.BigQuiet
import Derived.WideLaws
import Derived.Deep.DeepCutAuto
import Derived.Deep.CutBlock
import Derived.Deep.RegionHeld3
import Derived.Laws.Rows
import Derived.Lib.AppendStr
import Derived.ArgAppend
import Derived.Laws.IdiomCopy
import Derived.RowKit
import Derived.OpenShut
import Derived.ProofKit
import Derived.Deep.Slices
import Derived.SizedLaws
import Derived.OrdersHeld
import Derived.Laws.BitsLemmas
import Derived.Laws.StructEq
import Derived.Shelf.Strings.Builder1
import Derived.Shelf.Strings.BuilderF
import Derived.Shelf.Strings.BuilderK
import Derived.RangeFuncNested
import Derived.RangeFuncBound
import Derived.RangeFuncCalls
import Derived.RangeFuncLeaves
import Derived.RangeFuncWrites
import Derived.Shelf.Abstract
import Derived.Shelf.RegionOpen
import Derived.OwnWalkIn
import Derived.TacticsInMore
import Derived.LoopNIn
import Derived.LoopIn
import Derived.Lib.Hide
import Derived.WalkLawsBesides
import Derived.WalkSmall
import Derived.Laws.ResultCell
import Derived.RangeFuncRecord
import Derived.Deep.RegionWith
import Derived.Defers
import Derived.Recover
import Derived.Tactics2
import Derived.Lib.Builder
import Derived.Lib.UnsafeStr
import Derived.StillTailTactics
import Derived.Test.YtonoabknmmecnaaZF0
import Derived.Test.YtonoabknmmecnaaYA4
import Derived.Test.YtonoabknmmecnaaYA7HElf4
import Derived.Test.YtonoabknmmecnaaYA8HElf5
import Derived.Test.YtonoabknmmecnaaYA11HElf8
import Derived.Test.YtonoabknmmecnaaYA13
section
namespace Go.Proofs.Ytonoabknmmecnaa.Opens
open Go.ChangeShapes Go.WideShapes Go.RowKit Go.Deep
open Go.Proofs.YtonoabknmmecnaaW.PrintWords

theorem wf_u16 {n : Int} (h : (Lit.int .u16 n).wf = true) : 0 ≤ n ∧ n ≤ 65535 := by
  simp only [Lit.wf, Bool.and_eq_true, decide_eq_true_eq] at h
  exact ⟨h.1, h.2⟩
end Go.Proofs.Ytonoabknmmecnaa.Opens
end
section
namespace Go.Proofs.Ytonoabknmmecnaa.F
open Go.RowKit Go.Proofs.YtonoabknmmecnaaW.PrintWords Go.Proofs.YtonoabknmmecnaaW.PrintLast Go.Proofs.YtonoabknmmecnaaW.PrintMore
set_option linter.unusedVariables false
set_option linter.unusedSimpArgs false
theorem parse_cut {l : List S39} {entry : Int} {sh : Bool} (t : List UInt8) (m : Nat) (hm : m < 52 + 32 * l.length) (hn : l.length ≤ 16) (he : 0 ≤ entry ∧ entry < 4294967296) :
    rdParse (mkB ((wrHead sh entry l.length ++ (segBytes l ++ t)).take m)) = .error 101 := by
  by_cases h52 : m < 52
  · exact rdParse_short (by rw [List.length_take]; omega)
  · have e1 : (wrHead sh entry l.length ++ (segBytes l ++ t)).take m = wrHead sh entry l.length ++ (segBytes l ++ t).take (m - 52) := by
      rw [List.take_append, wrHead_length, List.take_of_length_le (by rw [wrHead_length]; omega)]
    rw [e1, wrHead_hd]
    have hl : 52 ≤ (magicL ++ hd (if sh then 196616 else 131080) 1 entry 52 0 1879052288 3407904 (l.length : Int) 0 0 ((segBytes l ++ t).take (m - 52))).length := by
      rw [List.length_append, hd_length, show magicL.length = 16 from rfl]
      omega
    rw [rdParse_magic hl]
    have R : HdR (if sh then 196616 else 131080) 1 entry 52 0 1879052288 3407904 (l.length : Int) 0 0 := ⟨by cases sh <;> decide, by decide, he, by decide, by decide, by decide, by decide, by omega, by decide, by decide⟩
    have hk : (if sh then (196616 : Int) else 131080) = 131080 ∨ (if sh then (196616 : Int) else 131080) = 196616 := by cases sh <;> decide
    rw [rdHeader_nums R, if_pos ⟨hk, rfl, ⟨rfl, rfl, rfl, rfl⟩, rfl, rfl, by omega⟩]
    unfold rdBody
    rw [Int.toNat_natCast, mkB_size, List.length_take, if_pos (by omega)]
end Go.Proofs.Ytonoabknmmecnaa.F
end
section
namespace Go.Proofs.Ytonoabknmmecnaa.F
open Go.RowKit Go.Proofs.YtonoabknmmecnaaW.PrintWords Go.Proofs.YtonoabknmmecnaaW.PrintLast Go.Proofs.YtonoabknmmecnaaW.PrintMore
set_option linter.unusedVariables false
set_option linter.unusedSimpArgs false
theorem inAll_mono {a b : Int} (h : a ≤ b) {l : List S39} (hi : inAll a l = true) : inAll b l = true := by
  unfold inAll at hi ⊢
  rw [List.all_eq_true] at hi ⊢
  intro x hx
  have := of_decide_eq_true (hi x hx)
  exact decide_eq_true (by omega)
end Go.Proofs.Ytonoabknmmecnaa.F
end
