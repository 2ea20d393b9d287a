import Derived.Below
import Derived.Deep.Draws
import Derived.Deep.AppendLies
import Derived.Maps.AppendAt
import Derived.OwnWalk
import Derived.Laws.BytesArg
import Derived.Laws.MakeOwn
import Derived.Laws.OwnMore
import Derived.Deep.OwnRows
import Derived.Tactics
import Derived.Lib.ConvBytes
import Derived.Laws.Slices
import Derived.WalkKit
import Derived.KernelRfl
import Derived.RowKit3
import Derived.Deep.LoopGhost
import Derived.Deep.QuietTactic
import Derived.BigQuiet
import Derived.WideLaws
import Derived.Deep.DeepCutAuto
import Derived.Deep.CutBlock
import Derived.Deep.RegionHeld3
import Derived.Laws.Rows
import Derived.Lib.AppendStr
import Derived.ArgAppend
import Derived.Laws.IdiomCopy
import Derived.RowKit
import Derived.OrdersHeld
import Derived.Laws.BitsLemmas
import Derived.Laws.StructEq
import Derived.WalkLawsBesides
import Derived.Shelf.Abstract
import Derived.Shelf.RegionOpen
import Derived.RangeFuncRecord
import Derived.OwnWalkIn
import Derived.ProofKit
import Derived.Lib.Hide
import Derived.Shelf.Small.Bits
import Derived.Shelf.LaysM
import Derived.Shelf.Strings.Fields
import Derived.Shelf.Strings.Replace
import Derived.Shelf.Strings.SplitShaped
import Derived.Lib.LaidTab
import Derived.Maps.OwnOps
import Derived.WalkSmall
import Derived.Laws.ResultCell
import Derived.Deep.RegionWith
import Derived.Defers
import Derived.Recover
import Derived.Tactics2
import Derived.Lib.ItoaNum
import Derived.Test.YtnddjndgfaefaaaDoorZF0
import Derived.Test.YtnddjndgfaefaaaDoorYA14FDecEncode
import Derived.Test.YtnddjndgfaefaaaDoorYA17FFerrylaw09Of
import Derived.Test.YtnddjndgfaefaaaDoorYC23PAlu5
import Derived.Test.YtnddjndgfaefaaaDoorYK31
section
namespace Go.Proofs.YtnddjndgfaefaaaDoor.F
set_option linter.unusedVariables false
set_option linter.unusedSimpArgs false
open Go.RowKit Go.Proofs.YtnddjndgfaefaaaDoorW.PrintWords Go.Proofs.YtnddjndgfaefaaaDoorW.PrintLast Go.Proofs.YtnddjndgfaefaaaDoorW.PrintMore

theorem encz_slt : ((dec_Encode.f ⟨#[115, 108, 116]⟩ 0 0 0 0 0).map (·.2) == some true) = true := by decide +kernel
theorem of_slt (s t : Int) (s0 : 0 ≤ s) (s1 : s ≤ 4294967295) (t0 : 0 ≤ t) (t1 : t ≤ 4294967295) : ferrylaw09_of.f ⟨#[115, 108, 116]⟩ s t = some ((if wrap32 s < wrap32 t then 1 else 0), true) := by
  obtain ⟨v, he⟩ := enc_get encz_slt
  unfold ferrylaw09_of.f
  rw [aval_slt 0 0 0 0 0 s t v s0 s1 t0 t1 (by decide) (by decide) (by decide) (by decide) (by decide) (by decide) he, Option.bind_some]
theorem encz_sltu : ((dec_Encode.f ⟨#[115, 108, 116, 117]⟩ 0 0 0 0 0).map (·.2) == some true) = true := by decide +kernel
theorem of_sltu (s t : Int) (s0 : 0 ≤ s) (s1 : s ≤ 4294967295) (t0 : 0 ≤ t) (t1 : t ≤ 4294967295) : ferrylaw09_of.f ⟨#[115, 108, 116, 117]⟩ s t = some ((if s < t then 1 else 0), true) := by
  obtain ⟨v, he⟩ := enc_get encz_sltu
  unfold ferrylaw09_of.f
  rw [aval_sltu 0 0 0 0 0 s t v s0 s1 t0 t1 (by decide) (by decide) (by decide) (by decide) (by decide) (by decide) he, Option.bind_some]
end Go.Proofs.YtnddjndgfaefaaaDoor.F
end
