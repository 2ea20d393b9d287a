import Derived.Below
import Derived.Deep.Draws
import Derived.Deep.AppendLies
import Derived.Maps.AppendAt
import Derived.OwnWalk
import Derived.Laws.BytesArg
import Derived.Laws.MakeOwn
import Derived.Laws.OwnMore
import Derived.Deep.OwnRows
import Derived.Tactics
import Derived.Lib.ConvBytes
import Derived.Laws.Slices
import Derived.WalkKit
import Derived.KernelRfl
import Derived.RowKit3
import Derived.Deep.LoopGhost
import Derived.Deep.QuietTactic
import Derived.BigQuiet
import Derived.WideLaws
import Derived.Deep.DeepCutAuto
import Derived.Deep.CutBlock
import Derived.Deep.RegionHeld3
import Derived.Laws.Rows
import Derived.Lib.AppendStr
import Derived.ArgAppend
import Derived.Laws.IdiomCopy
import Derived.RowKit
import Derived.OrdersHeld
import Derived.Laws.BitsLemmas
import Derived.Laws.StructEq
import Derived.ProofKit
import Derived.OwnWalkIn
import Derived.WalkSmall
import Derived.Laws.ResultCell
import Derived.RangeFuncRecord
import Derived.Lib.Hide
import Derived.Deep.RegionWith
import Derived.Maps.OwnOps
import Derived.Shelf.LaysM
import Derived.Shelf.Strings.Replace
import Derived.Lib.LaidTab
import Derived.Shelf.Abstract
import Derived.Shelf.RegionOpen
import Derived.Test.YtjkpgfjnidflhaaDoorZF0
import Derived.Test.YtjkpgfjnidflhaaDoorYA8HDecForms
import Derived.Test.YtjkpgfjnidflhaaDoorYA14HDecNamed
import Derived.Test.YtjkpgfjnidflhaaDoorYA18PDec4
import Derived.Test.YtjkpgfjnidflhaaDoorYB19PDec3
section
namespace Go.Proofs.YtjkpgfjnidflhaaDoor.F
open Go.RowKit Go.Proofs.YtjkpgfjnidflhaaDoorW.PrintWords Go.Proofs.YtjkpgfjnidflhaaDoorW.PrintLast Go.Proofs.YtjkpgfjnidflhaaDoorW.PrintMore
set_option linter.unusedVariables false
set_option linter.unusedSimpArgs false
theorem tr_row (x : S38) (hx : x ∈ decRows) (w : Int) (h0 : 0 ≤ w) (h1 : w ≤ 4294967295) : 0 ≤ (takeAll (infoAt x) w).i ∧ (takeAll (infoAt x) w).i ≤ 4294967295 := by
  obtain ⟨hm, he⟩ := info_form x hx
  generalize infoAt x = q at hm he ⊢
  simp only [formTable, List.mem_cons, List.not_mem_nil, or_false] at hm
  rcases hm with rfl | rfl | rfl | rfl | rfl | rfl | rfl | rfl | rfl | rfl | rfl | rfl | rfl | rfl | rfl | rfl | rfl | rfl | rfl | rfl
  · exact (tr_dta w h0 h1).2
  · exact (tr_dts w h0 h1).2
  · exact (tr_s w h0 h1).2
  · exact (tr_ds w h0 h1).2
  · exact (tr_dst w h0 h1).2
  · exact (tr_c w h0 h1).2
  · exact (tr_d w h0 h1).2
  · exact (tr_st w h0 h1).2
  · exact (tr_dtr w h0 h1).2
  · exact (tr_dtv w h0 h1).2
  · exact (tr_so w h0 h1).2
  · exact (tr_j w h0 h1).2
  · exact (tr_sto w h0 h1).2
  · exact (tr_tsi w h0 h1).2
  · exact (tr_ti w h0 h1).2
  · exact (tr_dsd w h0 h1).2
  · exact (tr_tsx w h0 h1).2
  · exact (tr_dt w h0 h1).2
  · exact (tr_td w h0 h1).2
  · exact (tr_tm w h0 h1).2
end Go.Proofs.YtjkpgfjnidflhaaDoor.F
end
