import Derived.Below
import Derived.Deep.Draws
import Derived.Deep.AppendLies
import Derived.Maps.AppendAt
import Derived.OwnWalk
import Derived.Laws.BytesArg
import Derived.Laws.MakeOwn
import Derived.Laws.OwnMore
import Derived.Deep.OwnRows
import Derived.Tactics
import Derived.Lib.ConvBytes
import Derived.Laws.Slices
import Derived.WalkKit
import Derived.KernelRfl
import Derived.RowKit3
import Derived.Deep.LoopGhost
import Derived.Deep.QuietTactic
import Derived.BigQuiet
import Derived.WideLaws
import Derived.Deep.DeepCutAuto
import Derived.Deep.CutBlock
import Derived.Deep.RegionHeld3
import Derived.Laws.Rows
import Derived.Lib.AppendStr
import Derived.ArgAppend
import Derived.Laws.IdiomCopy
import Derived.RowKit
import Derived.OrdersHeld
import Derived.Laws.BitsLemmas
import Derived.Laws.StructEq
import Derived.Shelf.Strings.Builder1
import Derived.Shelf.Strings.BuilderF
import Derived.Shelf.Strings.BuilderK
import Derived.RangeFuncNested
import Derived.RangeFuncBound
import Derived.RangeFuncCalls
import Derived.RangeFuncLeaves
import Derived.RangeFuncWrites
import Derived.Shelf.Abstract
import Derived.Shelf.RegionOpen
import Derived.OwnWalkIn
import Derived.TacticsInMore
import Derived.LoopNIn
import Derived.LoopIn
import Derived.Lib.Hide
import Derived.WalkLawsBesides
import Derived.WalkSmall
import Derived.Laws.ResultCell
import Derived.RangeFuncRecord
import Derived.ProofKit
import Derived.Deep.RegionWith
import Derived.Defers
import Derived.Recover
import Derived.Tactics2
import Derived.Lib.Builder
import Derived.Lib.UnsafeStr
import Derived.StillTailTactics
import Derived.OpenShut
import Derived.Deep.Slices
import Derived.SizedLaws
import Derived.Test.YtonoabknmmecnaaZF0
import Derived.Test.YtonoabknmmecnaaYA6HElf3
import Derived.Test.YtonoabknmmecnaaYA7HElf4
import Derived.Test.YtonoabknmmecnaaYA8HElf5
import Derived.Test.YtonoabknmmecnaaYA11HElf8
import Derived.Test.YtonoabknmmecnaaYA13
import Derived.Test.YtonoabknmmecnaaYB14
section
namespace Go.Proofs.Ytonoabknmmecnaa.F
open Go.RowKit Go.Proofs.YtonoabknmmecnaaW.PrintWords Go.Proofs.YtonoabknmmecnaaW.PrintLast Go.Proofs.YtonoabknmmecnaaW.PrintMore
set_option linter.unusedVariables false
set_option linter.unusedSimpArgs false
theorem rdParse_err {b : List UInt8} {c : Int} (h : rdParse (mkB b) = .error c) : c ≠ 0 := by
  by_cases hlen : b.length < 52
  · rw [rdParse_short hlen] at h
    cases h
    decide
  · by_cases hm : b.take 16 = magicL
    · obtain ⟨b', rfl⟩ : ∃ b', b = magicL ++ b' := ⟨b.drop 16, by rw [← hm, List.take_append_drop]⟩
      have hl' : 36 ≤ b'.length := by
        rw [List.length_append, show magicL.length = 16 from rfl] at hlen
        omega
      rw [rdParse_magic (by omega)] at h
      obtain ⟨kind, v1, entry', v2, v3, v4, v5, n, hh, z, t, rfl, R, ht⟩ := hd_front hl'
      rw [rdHeader_nums R] at h
      split at h
      · unfold rdBody at h
        split at h
        · cases h
          decide
        · rename_i hlt
          rw [mkB_size] at hlt
          cases e : rdSegs n.toNat (mkB t) with
          | error c' =>
            rw [e] at h
            have := segs_err (by omega) e
            subst this
            cases h
            decide
          | ok p =>
            obtain ⟨l', s'⟩ := p
            rw [e] at h
            dsimp only at h
            split at h
            · cases h
              decide
            · split at h
              · cases h
              · cases h
                decide
      · cases h
        decide
    · rw [rdParse_bad (by omega) hm] at h
      cases h
      decide
theorem parse_either {b : List UInt8} (hb : b.length < 1000000000000000) : (∃ c : Int, c ≠ 0 ∧ elf_Parse.f (mkB b) = some (false, 0, [], c)) ∨
    (∃ sh entry l t, b = wrHead sh entry (l.length : Int) ++ (segBytes l ++ t) ∧ elf_Parse.f (mkB b) = some (sh, entry, l, 0) ∧ l.length ≤ 16 ∧ (0 ≤ entry ∧ entry < 4294967296) ∧ (∀ x ∈ l, segRead x) ∧ l.any unfit = false ∧ inAll (b.length : Int) l = true) := by
  rw [elf_Parse_eq b hb]
  cases e : rdParse (mkB b) with
  | error c => exact Or.inl ⟨c, rdParse_err e, rfl⟩
  | ok p =>
    obtain ⟨⟨sh, entry, l⟩, s⟩ := p
    obtain ⟨t, h1, _, h2, h3, h4, h5, h6⟩ := parse_inv e
    exact Or.inr ⟨sh, entry, l, t, h1, rfl, h2, h3, h4, h5, h6⟩
end Go.Proofs.Ytonoabknmmecnaa.F
end
