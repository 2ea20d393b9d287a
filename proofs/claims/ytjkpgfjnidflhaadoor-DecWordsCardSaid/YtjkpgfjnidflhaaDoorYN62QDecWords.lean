import Derived.Below
import Derived.Deep.Draws
import Derived.Deep.AppendLies
import Derived.Maps.AppendAt
import Derived.OwnWalk
import Derived.Laws.BytesArg
import Derived.Laws.MakeOwn
import Derived.Laws.OwnMore
import Derived.Deep.OwnRows
import Derived.Tactics
import Derived.Lib.ConvBytes
import Derived.Laws.Slices
import Derived.WalkKit
import Derived.KernelRfl
import Derived.RowKit3
import Derived.Deep.LoopGhost
import Derived.Deep.QuietTactic
import Derived.BigQuiet
import Derived.WideLaws
import Derived.Deep.DeepCutAuto
import Derived.Deep.CutBlock
import Derived.Deep.RegionHeld3
import Derived.Laws.Rows
import Derived.Lib.AppendStr
import Derived.ArgAppend
import Derived.Laws.IdiomCopy
import Derived.RowKit
import Derived.OrdersHeld
import Derived.Laws.BitsLemmas
import Derived.Laws.StructEq
import Derived.ProofKit
import Derived.Lib.Hide
import Derived.Maps.OwnOps
import Derived.RangeFuncRecord
import Derived.Shelf.LaysM
import Derived.Shelf.Strings.Replace
import Derived.Lib.LaidTab
import Derived.Shelf.Abstract
import Derived.OwnWalkIn
import Derived.WalkSmall
import Derived.Laws.ResultCell
import Derived.Shelf.RegionOpen
import Derived.Deep.RegionWith
import Derived.OpenShut
import Derived.Deep.Slices
import Derived.SizedLaws
import Derived.Test.YtjkpgfjnidflhaaDoorZF0
import Derived.Test.YtjkpgfjnidflhaaDoorYN61FFerrylaw07DecWords
section
namespace Go.Proofs.YtjkpgfjnidflhaaDoor.F
open Go.RowKit Go.Proofs.YtjkpgfjnidflhaaDoorW.PrintWords Go.Proofs.YtjkpgfjnidflhaaDoorW.PrintLast Go.Proofs.YtjkpgfjnidflhaaDoorW.PrintMore
def ferrylaw07_DecWords.Pure : Prop :=
  ∀ (a0 : Int) (a1 : Int) (a2 : Int) (a3_0 : ByteArray) (a3_1 : Int) (a3_2 : Int) (a3_3 : Int) (a3_4 : Int) (a3_5 : Int) (a4_0 : ByteArray) (a4_1 : Int) (a4_2 : Int) (a4_3 : Int) (a4_4 : Int) (a4_5 : Int), (0 ≤ a0 ∧ a0 ≤ 255) → (0 ≤ a1 ∧ a1 ≤ 255) → (0 ≤ a2 ∧ a2 ≤ 255) → (a3_0.size ≤ 9223372036854775807) → ((-9223372036854775808) ≤ a3_1 ∧ a3_1 ≤ 9223372036854775807) → ((-9223372036854775808) ≤ a3_2 ∧ a3_2 ≤ 9223372036854775807) → ((-9223372036854775808) ≤ a3_3 ∧ a3_3 ≤ 9223372036854775807) → ((-9223372036854775808) ≤ a3_4 ∧ a3_4 ≤ 9223372036854775807) → (0 ≤ a3_5 ∧ a3_5 ≤ 4294967295) → (a4_0.size ≤ 9223372036854775807) → ((-9223372036854775808) ≤ a4_1 ∧ a4_1 ≤ 9223372036854775807) → ((-9223372036854775808) ≤ a4_2 ∧ a4_2 ≤ 9223372036854775807) → ((-9223372036854775808) ≤ a4_3 ∧ a4_3 ≤ 9223372036854775807) → ((-9223372036854775808) ≤ a4_4 ∧ a4_4 ≤ 9223372036854775807) → (0 ≤ a4_5 ∧ a4_5 ≤ 4294967295) → ∃ k, ferrylaw07_DecWords.f k a0 a1 a2 a3_0 a3_1 a3_2 a3_3 a3_4 a3_5 a4_0 a4_1 a4_2 a4_3 a4_4 a4_5 = some true
end Go.Proofs.YtjkpgfjnidflhaaDoor.F
end
