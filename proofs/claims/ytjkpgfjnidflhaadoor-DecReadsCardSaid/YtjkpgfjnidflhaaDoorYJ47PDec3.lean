import Derived.Below
import Derived.Deep.Draws
import Derived.Deep.AppendLies
import Derived.Maps.AppendAt
import Derived.OwnWalk
import Derived.Laws.BytesArg
import Derived.Laws.MakeOwn
import Derived.Laws.OwnMore
import Derived.Deep.OwnRows
import Derived.Tactics
import Derived.Lib.ConvBytes
import Derived.Laws.Slices
import Derived.WalkKit
import Derived.KernelRfl
import Derived.RowKit3
import Derived.Deep.LoopGhost
import Derived.Deep.QuietTactic
import Derived.BigQuiet
import Derived.WideLaws
import Derived.Deep.DeepCutAuto
import Derived.Deep.CutBlock
import Derived.Deep.RegionHeld3
import Derived.Laws.Rows
import Derived.Lib.AppendStr
import Derived.ArgAppend
import Derived.Laws.IdiomCopy
import Derived.RowKit
import Derived.OrdersHeld
import Derived.Laws.BitsLemmas
import Derived.Laws.StructEq
import Derived.ProofKit
import Derived.OwnWalkIn
import Derived.WalkSmall
import Derived.Laws.ResultCell
import Derived.RangeFuncRecord
import Derived.Lib.Hide
import Derived.Deep.RegionWith
import Derived.Maps.OwnOps
import Derived.Shelf.LaysM
import Derived.Shelf.Strings.Replace
import Derived.Lib.LaidTab
import Derived.Shelf.Abstract
import Derived.Shelf.RegionOpen
import Derived.Test.YtjkpgfjnidflhaaDoorZF0
import Derived.Test.YtjkpgfjnidflhaaDoorYA5HDecTake
import Derived.Test.YtjkpgfjnidflhaaDoorYA8HDecForms
import Derived.Test.YtjkpgfjnidflhaaDoorYA17PDec3
import Derived.Test.YtjkpgfjnidflhaaDoorYJ42HDecGuess
section
namespace Go.Proofs.YtjkpgfjnidflhaaDoor.F
open Go.RowKit Go.Proofs.YtjkpgfjnidflhaaDoorW.PrintWords Go.Proofs.YtjkpgfjnidflhaaDoorW.PrintLast Go.Proofs.YtjkpgfjnidflhaaDoorW.PrintMore
set_option linter.unusedVariables false
set_option linter.unusedSimpArgs false
theorem gFld_fld (w d : Int) : gFld true w d = fldOf w d := gFld_t w d
theorem gs_dta (w : Int) : (gFld false w 2097152, gFld true w 65536, gFld true w 2048, gFld true w 64, gImm 0 w) = ((takeAll ([100, 116, 97], [100, 116, 97], 0, 16) w).s, (takeAll ([100, 116, 97], [100, 116, 97], 0, 16) w).t, (takeAll ([100, 116, 97], [100, 116, 97], 0, 16) w).d, (takeAll ([100, 116, 97], [100, 116, 97], 0, 16) w).a, (takeAll ([100, 116, 97], [100, 116, 97], 0, 16) w).i) := by
  rw [take_dta]
  simp only [gFld_fld, gFld_f, gImm_0, gImm_16, gImm_20, gImm_26, immOf_16, immOf_20, immOf_26]
theorem gs_dts (w : Int) : (gFld true w 2097152, gFld true w 65536, gFld true w 2048, gFld false w 64, gImm 0 w) = ((takeAll ([100, 116, 115], [100, 116, 115], 0, 16) w).s, (takeAll ([100, 116, 115], [100, 116, 115], 0, 16) w).t, (takeAll ([100, 116, 115], [100, 116, 115], 0, 16) w).d, (takeAll ([100, 116, 115], [100, 116, 115], 0, 16) w).a, (takeAll ([100, 116, 115], [100, 116, 115], 0, 16) w).i) := by
  rw [take_dts]
  simp only [gFld_fld, gFld_f, gImm_0, gImm_16, gImm_20, gImm_26, immOf_16, immOf_20, immOf_26]
theorem gs_s (w : Int) : (gFld true w 2097152, gFld false w 65536, gFld false w 2048, gFld false w 64, gImm 0 w) = ((takeAll ([115], [115], 0, 16) w).s, (takeAll ([115], [115], 0, 16) w).t, (takeAll ([115], [115], 0, 16) w).d, (takeAll ([115], [115], 0, 16) w).a, (takeAll ([115], [115], 0, 16) w).i) := by
  rw [take_s]
  simp only [gFld_fld, gFld_f, gImm_0, gImm_16, gImm_20, gImm_26, immOf_16, immOf_20, immOf_26]
theorem gs_ds (w : Int) : (gFld true w 2097152, gFld false w 65536, gFld true w 2048, gFld false w 64, gImm 0 w) = ((takeAll ([100, 115], [100, 115], 0, 16) w).s, (takeAll ([100, 115], [100, 115], 0, 16) w).t, (takeAll ([100, 115], [100, 115], 0, 16) w).d, (takeAll ([100, 115], [100, 115], 0, 16) w).a, (takeAll ([100, 115], [100, 115], 0, 16) w).i) := by
  rw [take_ds]
  simp only [gFld_fld, gFld_f, gImm_0, gImm_16, gImm_20, gImm_26, immOf_16, immOf_20, immOf_26]
theorem gs_dst (w : Int) : (gFld true w 2097152, gFld true w 65536, gFld true w 2048, gFld false w 64, gImm 0 w) = ((takeAll ([100, 115, 116], [100, 115, 116], 0, 16) w).s, (takeAll ([100, 115, 116], [100, 115, 116], 0, 16) w).t, (takeAll ([100, 115, 116], [100, 115, 116], 0, 16) w).d, (takeAll ([100, 115, 116], [100, 115, 116], 0, 16) w).a, (takeAll ([100, 115, 116], [100, 115, 116], 0, 16) w).i) := by
  rw [take_dst]
  simp only [gFld_fld, gFld_f, gImm_0, gImm_16, gImm_20, gImm_26, immOf_16, immOf_20, immOf_26]
theorem gs_c (w : Int) : (gFld false w 2097152, gFld false w 65536, gFld false w 2048, gFld false w 64, gImm 20 w) = ((takeAll ([99], [105], 6, 20) w).s, (takeAll ([99], [105], 6, 20) w).t, (takeAll ([99], [105], 6, 20) w).d, (takeAll ([99], [105], 6, 20) w).a, (takeAll ([99], [105], 6, 20) w).i) := by
  rw [take_c]
  simp only [gFld_fld, gFld_f, gImm_0, gImm_16, gImm_20, gImm_26, immOf_16, immOf_20, immOf_26]
theorem gs_d (w : Int) : (gFld false w 2097152, gFld false w 65536, gFld true w 2048, gFld false w 64, gImm 0 w) = ((takeAll ([100], [100], 0, 16) w).s, (takeAll ([100], [100], 0, 16) w).t, (takeAll ([100], [100], 0, 16) w).d, (takeAll ([100], [100], 0, 16) w).a, (takeAll ([100], [100], 0, 16) w).i) := by
  rw [take_d]
  simp only [gFld_fld, gFld_f, gImm_0, gImm_16, gImm_20, gImm_26, immOf_16, immOf_20, immOf_26]
theorem gs_st (w : Int) : (gFld true w 2097152, gFld true w 65536, gFld false w 2048, gFld false w 64, gImm 0 w) = ((takeAll ([115, 116], [115, 116], 0, 16) w).s, (takeAll ([115, 116], [115, 116], 0, 16) w).t, (takeAll ([115, 116], [115, 116], 0, 16) w).d, (takeAll ([115, 116], [115, 116], 0, 16) w).a, (takeAll ([115, 116], [115, 116], 0, 16) w).i) := by
  rw [take_st]
  simp only [gFld_fld, gFld_f, gImm_0, gImm_16, gImm_20, gImm_26, immOf_16, immOf_20, immOf_26]
theorem gs_dtr (w : Int) : (gFld false w 2097152, gFld true w 65536, gFld true w 2048, gFld true w 64, gImm 0 w) = ((takeAll ([100, 116, 114], [100, 116, 97], 0, 16) w).s, (takeAll ([100, 116, 114], [100, 116, 97], 0, 16) w).t, (takeAll ([100, 116, 114], [100, 116, 97], 0, 16) w).d, (takeAll ([100, 116, 114], [100, 116, 97], 0, 16) w).a, (takeAll ([100, 116, 114], [100, 116, 97], 0, 16) w).i) := by
  rw [take_dtr]
  simp only [gFld_fld, gFld_f, gImm_0, gImm_16, gImm_20, gImm_26, immOf_16, immOf_20, immOf_26]
theorem gs_dtv (w : Int) : (gFld true w 2097152, gFld true w 65536, gFld true w 2048, gFld false w 64, gImm 0 w) = ((takeAll ([100, 116, 118], [100, 116, 115], 0, 16) w).s, (takeAll ([100, 116, 118], [100, 116, 115], 0, 16) w).t, (takeAll ([100, 116, 118], [100, 116, 115], 0, 16) w).d, (takeAll ([100, 116, 118], [100, 116, 115], 0, 16) w).a, (takeAll ([100, 116, 118], [100, 116, 115], 0, 16) w).i) := by
  rw [take_dtv]
  simp only [gFld_fld, gFld_f, gImm_0, gImm_16, gImm_20, gImm_26, immOf_16, immOf_20, immOf_26]
theorem gs_so (w : Int) : (gFld true w 2097152, gFld false w 65536, gFld false w 2048, gFld false w 64, gImm 16 w) = ((takeAll ([115, 111], [115, 105], 0, 16) w).s, (takeAll ([115, 111], [115, 105], 0, 16) w).t, (takeAll ([115, 111], [115, 105], 0, 16) w).d, (takeAll ([115, 111], [115, 105], 0, 16) w).a, (takeAll ([115, 111], [115, 105], 0, 16) w).i) := by
  rw [take_so]
  simp only [gFld_fld, gFld_f, gImm_0, gImm_16, gImm_20, gImm_26, immOf_16, immOf_20, immOf_26]
theorem gs_j (w : Int) : (gFld false w 2097152, gFld false w 65536, gFld false w 2048, gFld false w 64, gImm 26 w) = ((takeAll ([106], [105], 0, 26) w).s, (takeAll ([106], [105], 0, 26) w).t, (takeAll ([106], [105], 0, 26) w).d, (takeAll ([106], [105], 0, 26) w).a, (takeAll ([106], [105], 0, 26) w).i) := by
  rw [take_j]
  simp only [gFld_fld, gFld_f, gImm_0, gImm_16, gImm_20, gImm_26, immOf_16, immOf_20, immOf_26]
theorem gs_sto (w : Int) : (gFld true w 2097152, gFld true w 65536, gFld false w 2048, gFld false w 64, gImm 16 w) = ((takeAll ([115, 116, 111], [115, 116, 105], 0, 16) w).s, (takeAll ([115, 116, 111], [115, 116, 105], 0, 16) w).t, (takeAll ([115, 116, 111], [115, 116, 105], 0, 16) w).d, (takeAll ([115, 116, 111], [115, 116, 105], 0, 16) w).a, (takeAll ([115, 116, 111], [115, 116, 105], 0, 16) w).i) := by
  rw [take_sto]
  simp only [gFld_fld, gFld_f, gImm_0, gImm_16, gImm_20, gImm_26, immOf_16, immOf_20, immOf_26]
theorem gs_tsi (w : Int) : (gFld true w 2097152, gFld true w 65536, gFld false w 2048, gFld false w 64, gImm 16 w) = ((takeAll ([116, 115, 105], [116, 115, 105], 0, 16) w).s, (takeAll ([116, 115, 105], [116, 115, 105], 0, 16) w).t, (takeAll ([116, 115, 105], [116, 115, 105], 0, 16) w).d, (takeAll ([116, 115, 105], [116, 115, 105], 0, 16) w).a, (takeAll ([116, 115, 105], [116, 115, 105], 0, 16) w).i) := by
  rw [take_tsi]
  simp only [gFld_fld, gFld_f, gImm_0, gImm_16, gImm_20, gImm_26, immOf_16, immOf_20, immOf_26]
theorem gs_ti (w : Int) : (gFld false w 2097152, gFld true w 65536, gFld false w 2048, gFld false w 64, gImm 16 w) = ((takeAll ([116, 105], [116, 105], 0, 16) w).s, (takeAll ([116, 105], [116, 105], 0, 16) w).t, (takeAll ([116, 105], [116, 105], 0, 16) w).d, (takeAll ([116, 105], [116, 105], 0, 16) w).a, (takeAll ([116, 105], [116, 105], 0, 16) w).i) := by
  rw [take_ti]
  simp only [gFld_fld, gFld_f, gImm_0, gImm_16, gImm_20, gImm_26, immOf_16, immOf_20, immOf_26]
theorem gs_dsd (w : Int) : (gFld true w 2097152, gFld false w 65536, gFld true w 2048, gFld false w 64, gImm 0 w) = ((takeAll ([100, 115, 100], [100, 115], 0, 16) w).s, (takeAll ([100, 115, 100], [100, 115], 0, 16) w).t, (takeAll ([100, 115, 100], [100, 115], 0, 16) w).d, (takeAll ([100, 115, 100], [100, 115], 0, 16) w).a, (takeAll ([100, 115, 100], [100, 115], 0, 16) w).i) := by
  rw [take_dsd]
  simp only [gFld_fld, gFld_f, gImm_0, gImm_16, gImm_20, gImm_26, immOf_16, immOf_20, immOf_26]
theorem gs_tsx (w : Int) : (gFld true w 2097152, gFld true w 65536, gFld true w 2048, gFld true w 64, gImm 0 w) = ((takeAll ([116, 115, 120], [116, 115, 100, 97], 0, 16) w).s, (takeAll ([116, 115, 120], [116, 115, 100, 97], 0, 16) w).t, (takeAll ([116, 115, 120], [116, 115, 100, 97], 0, 16) w).d, (takeAll ([116, 115, 120], [116, 115, 100, 97], 0, 16) w).a, (takeAll ([116, 115, 120], [116, 115, 100, 97], 0, 16) w).i) := by
  rw [take_tsx]
  simp only [gFld_fld, gFld_f, gImm_0, gImm_16, gImm_20, gImm_26, immOf_16, immOf_20, immOf_26]
theorem gs_dt (w : Int) : (gFld false w 2097152, gFld true w 65536, gFld true w 2048, gFld false w 64, gImm 0 w) = ((takeAll ([100, 116], [100, 116], 0, 16) w).s, (takeAll ([100, 116], [100, 116], 0, 16) w).t, (takeAll ([100, 116], [100, 116], 0, 16) w).d, (takeAll ([100, 116], [100, 116], 0, 16) w).a, (takeAll ([100, 116], [100, 116], 0, 16) w).i) := by
  rw [take_dt]
  simp only [gFld_fld, gFld_f, gImm_0, gImm_16, gImm_20, gImm_26, immOf_16, immOf_20, immOf_26]
theorem gs_td (w : Int) : (gFld false w 2097152, gFld true w 65536, gFld true w 2048, gFld false w 64, gImm 0 w) = ((takeAll ([116, 100], [116, 100], 0, 16) w).s, (takeAll ([116, 100], [116, 100], 0, 16) w).t, (takeAll ([116, 100], [116, 100], 0, 16) w).d, (takeAll ([116, 100], [116, 100], 0, 16) w).a, (takeAll ([116, 100], [116, 100], 0, 16) w).i) := by
  rw [take_td]
  simp only [gFld_fld, gFld_f, gImm_0, gImm_16, gImm_20, gImm_26, immOf_16, immOf_20, immOf_26]
theorem gs_tm (w : Int) : (gFld true w 2097152, gFld true w 65536, gFld false w 2048, gFld false w 64, gImm 16 w) = ((takeAll ([116, 109], [116, 115, 105], 0, 16) w).s, (takeAll ([116, 109], [116, 115, 105], 0, 16) w).t, (takeAll ([116, 109], [116, 115, 105], 0, 16) w).d, (takeAll ([116, 109], [116, 115, 105], 0, 16) w).a, (takeAll ([116, 109], [116, 115, 105], 0, 16) w).i) := by
  rw [take_tm]
  simp only [gFld_fld, gFld_f, gImm_0, gImm_16, gImm_20, gImm_26, immOf_16, immOf_20, immOf_26]
end Go.Proofs.YtjkpgfjnidflhaaDoor.F
end
