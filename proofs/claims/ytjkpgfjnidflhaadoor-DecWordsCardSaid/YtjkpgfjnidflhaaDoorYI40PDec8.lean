import Derived.Below
import Derived.Deep.Draws
import Derived.Deep.AppendLies
import Derived.Maps.AppendAt
import Derived.OwnWalk
import Derived.Laws.BytesArg
import Derived.Laws.MakeOwn
import Derived.Laws.OwnMore
import Derived.Deep.OwnRows
import Derived.Tactics
import Derived.Lib.ConvBytes
import Derived.Laws.Slices
import Derived.WalkKit
import Derived.KernelRfl
import Derived.RowKit3
import Derived.Deep.LoopGhost
import Derived.Deep.QuietTactic
import Derived.BigQuiet
import Derived.WideLaws
import Derived.Deep.DeepCutAuto
import Derived.Deep.CutBlock
import Derived.Deep.RegionHeld3
import Derived.Laws.Rows
import Derived.Lib.AppendStr
import Derived.ArgAppend
import Derived.Laws.IdiomCopy
import Derived.RowKit
import Derived.OrdersHeld
import Derived.Laws.BitsLemmas
import Derived.Laws.StructEq
import Derived.ProofKit
import Derived.OwnWalkIn
import Derived.WalkSmall
import Derived.Laws.ResultCell
import Derived.RangeFuncRecord
import Derived.Lib.Hide
import Derived.Deep.RegionWith
import Derived.Maps.OwnOps
import Derived.Shelf.LaysM
import Derived.Shelf.Strings.Replace
import Derived.Lib.LaidTab
import Derived.Shelf.Abstract
import Derived.Shelf.RegionOpen
import Derived.Test.YtjkpgfjnidflhaaDoorZF0
import Derived.Test.YtjkpgfjnidflhaaDoorYA5HDecTake
import Derived.Test.YtjkpgfjnidflhaaDoorYA8HDecForms
import Derived.Test.YtjkpgfjnidflhaaDoorYA10HDecFind
import Derived.Test.YtjkpgfjnidflhaaDoorYA14HDecNamed
import Derived.Test.YtjkpgfjnidflhaaDoorYA15HDecTop
import Derived.Test.YtjkpgfjnidflhaaDoorYD23PDec6
import Derived.Test.YtjkpgfjnidflhaaDoorYG27FDecEncode
import Derived.Test.YtjkpgfjnidflhaaDoorYG28PDec6
import Derived.Test.YtjkpgfjnidflhaaDoorYI39PDec7
section
namespace Go.Proofs.YtjkpgfjnidflhaaDoor.F
open Go.RowKit Go.Proofs.YtjkpgfjnidflhaaDoorW.PrintWords Go.Proofs.YtjkpgfjnidflhaaDoorW.PrintLast Go.Proofs.YtjkpgfjnidflhaaDoorW.PrintMore
set_option linter.unusedVariables false
set_option linter.unusedSimpArgs false
theorem enc_cases (nm : ByteArray) (n : Nums) (h0 : 0 ≤ n.i) (h1 : n.i ≤ 4294967295) :
    dec_Encode.f nm n.s n.t n.d n.a n.i = some (0, false) ∨ ∃ x ∈ decRows, x.f0 = nm ∧ dec_Encode.f nm n.s n.t n.d n.a n.i = some (layAll (infoAt x) x.f1 x.f2 n, true) ∧ takeAll (infoAt x) (layAll (infoAt x) x.f1 x.f2 n) = n ∧ decode_p (layAll (infoAt x) x.f1 x.f2 n) x = true ∧ 0 ≤ layAll (infoAt x) x.f1 x.f2 n ∧ layAll (infoAt x) x.f1 x.f2 n ≤ 4294967295 := by
  rcases name_cases nm with ⟨x, hx, rfl⟩ | h
  · have he := enc_found x hx n (named_row x hx)
    by_cases hq : takeAll (infoAt x) (layAll (infoAt x) x.f1 x.f2 n) = n ∧ soundOf x.f0 n = true
    · rw [if_pos hq] at he
      have hk := key_row x hx n h0 h1
      exact Or.inr ⟨x, hx, rfl, he, hq.1, laid_matches x hx n h0 h1 hq.1 hq.2, hk.2.2.1, hk.2.2.2⟩
    · rw [if_neg hq] at he
      exact Or.inl he
  · refine Or.inl ?_
    unfold dec_Encode.f dec_named.f
    rw [named_none nm h, Option.bind_some]
    dsimp only
    rw [if_neg (by decide)]
end Go.Proofs.YtjkpgfjnidflhaaDoor.F
end
