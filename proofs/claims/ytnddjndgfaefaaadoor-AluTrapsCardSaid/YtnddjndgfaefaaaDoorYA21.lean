import Derived.Below
import Derived.Deep.Draws
import Derived.Deep.AppendLies
import Derived.Maps.AppendAt
import Derived.OwnWalk
import Derived.Laws.BytesArg
import Derived.Laws.MakeOwn
import Derived.Laws.OwnMore
import Derived.Deep.OwnRows
import Derived.Tactics
import Derived.Lib.ConvBytes
import Derived.Laws.Slices
import Derived.WalkKit
import Derived.KernelRfl
import Derived.RowKit3
import Derived.Deep.LoopGhost
import Derived.Deep.QuietTactic
import Derived.BigQuiet
import Derived.WideLaws
import Derived.Deep.DeepCutAuto
import Derived.Deep.CutBlock
import Derived.Deep.RegionHeld3
import Derived.Laws.Rows
import Derived.Lib.AppendStr
import Derived.ArgAppend
import Derived.Laws.IdiomCopy
import Derived.RowKit
import Derived.OrdersHeld
import Derived.Laws.BitsLemmas
import Derived.Laws.StructEq
import Derived.OwnWalkIn
import Derived.WalkSmall
import Derived.Laws.ResultCell
import Derived.RangeFuncRecord
import Derived.ProofKit
import Derived.Lib.Hide
import Derived.Deep.RegionWith
import Derived.WalkLawsBesides
import Derived.Shelf.Abstract
import Derived.Shelf.RegionOpen
import Derived.Shelf.Small.Bits
import Derived.Shelf.LaysM
import Derived.Shelf.Strings.Fields
import Derived.Shelf.Strings.Replace
import Derived.Shelf.Strings.SplitShaped
import Derived.Lib.LaidTab
import Derived.Maps.OwnOps
import Derived.Defers
import Derived.Recover
import Derived.Tactics2
import Derived.Lib.ItoaNum
import Derived.Test.YtnddjndgfaefaaaDoorZF0
import Derived.Test.YtnddjndgfaefaaaDoorYA14FDecEncode
import Derived.Test.YtnddjndgfaefaaaDoorYA15FDecForm
import Derived.Test.YtnddjndgfaefaaaDoorYA18FFerrylaw09Awake
import Derived.Test.YtnddjndgfaefaaaDoorYA19
import Derived.Test.YtnddjndgfaefaaaDoorYA20HDecRef
section
namespace Go.Proofs.YtnddjndgfaefaaaDoor.F
open Go.RowKit Go.Proofs.YtnddjndgfaefaaaDoorW.PrintWords Go.Proofs.YtnddjndgfaefaaaDoorW.PrintLast Go.Proofs.YtnddjndgfaefaaaDoorW.PrintMore
theorem field60_3 (x0 : Int) (x1 : Int) (x2 : Int) (x3 : ByteArray) (w : World) : (Instr.field 60 (.agg #[.int .u32 x0, .int .u32 x1, .int .u32 x2, .string x3]) 3).run Tryd.prog w = .ok (.string x3) w := by kernel_rfl
attribute [local go_sem] field60_3
set_option linter.unusedVariables false
set_option linter.unusedSimpArgs false
def immTop (wd : Int) : Int := if wd = 16 then 65536 else if wd = 20 then 1048576 else if wd = 26 then 67108864 else 1
def ferryref07_fit.f (a0_0 : ByteArray) (a0_1 : Int) (a0_2 : Int) (a0_3 : Int) (a0_4 : Int) (a0_5 : Int) (a1_0 : Int) (a1_1 : Int) (a1_2 : Int) (a1_3 : ByteArray) : Option Bool :=
  (regsOf a1_3.toList).map fun r => fitIf a0_0.toList a1_3.toList (fitsOf a0_1 r.2.1.1) (fitsOf a0_2 r.2.1.2.1) (fitsOf a0_3 r.2.1.2.2.1) (fitsOf a0_4 r.2.1.2.2.2) (decide (immTop r.2.2 ≤ a0_5)) a0_3 a0_4
end Go.Proofs.YtnddjndgfaefaaaDoor.F
end
section
namespace Go.Proofs.YtnddjndgfaefaaaDoor.F
open Go.RowKit Go.Proofs.YtnddjndgfaefaaaDoorW.PrintWords Go.Proofs.YtnddjndgfaefaaaDoorW.PrintLast Go.Proofs.YtnddjndgfaefaaaDoorW.PrintMore
attribute [local go_sem] max2_int min2_int max_two min_two max_three min_three max_four min_four
set_option linter.unusedVariables false
set_option linter.unusedSimpArgs false

def ferryref07_Encode.j0 : Nat → Int → Int → Int → Int → ByteArray → Bool → ByteArray → Int → Int → Int → Int → Int → Int → Int → Int → ByteArray → Option (Int × Bool)
  | 0, _, _, _, _, _, _, _, _, _, _, _, _, _, _, _, _ => none
  | k + 1, x5, x6, x7, x8, x29, x46, x213000, x213001, x213002, x213003, x213004, x213005, x218000, x218001, x218002, x218003 => if x46 = true then (if x218000 = 1 then (some (Go.bits .or .u32 (Go.bits .or .u32 (Go.bits .or .u32 x8 ((x5 * 2097152) % 4294967296)) ((x218001 * 65536) % 4294967296)) x213005, true)) else (some (Go.bits .or .u32 (Go.bits .or .u32 (Go.bits .or .u32 x8 ((x5 * 2097152) % 4294967296)) ((x6 * 65536) % 4294967296)) x213005, true))) else (if x29.toList = ([100, 115, 100] : List UInt8) then (some (Go.bits .or .u32 (Go.bits .or .u32 (Go.bits .or .u32 (Go.bits .or .u32 (Go.bits .or .u32 x8 ((x5 * 2097152) % 4294967296)) ((((x213003) % 4294967296) * 65536) % 4294967296)) ((((x213003) % 4294967296) * 2048) % 4294967296)) ((x7 * 64) % 4294967296)) x218001, true)) else (if x29.toList = ([100, 116, 114] : List UInt8) then (some (Go.bits .or .u32 (Go.bits .or .u32 (Go.bits .or .u32 (Go.bits .or .u32 (Go.bits .or .u32 x8 (1 * 2097152)) ((x6 * 65536) % 4294967296)) ((((x213003) % 4294967296) * 2048) % 4294967296)) ((x7 * 64) % 4294967296)) x218001, true)) else (if x29.toList = ([100, 116, 118] : List UInt8) then (some (Go.bits .or .u32 (Go.bits .or .u32 (Go.bits .or .u32 (Go.bits .or .u32 (Go.bits .or .u32 x8 ((x5 * 2097152) % 4294967296)) ((x6 * 65536) % 4294967296)) ((((x213003) % 4294967296) * 2048) % 4294967296)) (1 * 64)) x218001, true)) else (if x29.toList = ([100, 116] : List UInt8) then (some (Go.bits .or .u32 (Go.bits .or .u32 (Go.bits .or .u32 (Go.bits .or .u32 (Go.bits .or .u32 x8 ((x5 * 2097152) % 4294967296)) ((x6 * 65536) % 4294967296)) ((((x213003) % 4294967296) * 2048) % 4294967296)) ((x218002 * 64) % 4294967296)) x218001, true)) else (some (Go.bits .or .u32 (Go.bits .or .u32 (Go.bits .or .u32 (Go.bits .or .u32 (Go.bits .or .u32 x8 ((x5 * 2097152) % 4294967296)) ((x6 * 65536) % 4294967296)) ((((x213003) % 4294967296) * 2048) % 4294967296)) ((x7 * 64) % 4294967296)) x218001, true))))))
def ferryref07_Encode.f (k : Nat) (a0_0 : ByteArray) (a0_1 : Int) (a0_2 : Int) (a0_3 : Int) (a0_4 : Int) (a0_5 : Int) : Option (Int × Bool) := (ferryref07_special.f a0_0).bind fun bt213 => ((ferryref07_fit.f a0_0 a0_1 a0_2 a0_3 a0_4 a0_5 bt213.1 bt213.2.1 bt213.2.2.1 bt213.2.2.2).bind fun t218 => (if t218 = true then (if bt213.2.2.2.toList = ([106] : List UInt8) then (some (Go.bits .or .u32 ((bt213.1 * 67108864) % 4294967296) a0_5, true)) else (if bt213.2.2.2.toList = ([99] : List UInt8) then (some (Go.bits .or .u32 (Go.bits .or .u32 ((bt213.1 * 67108864) % 4294967296) ((a0_5 * 64) % 4294967296)) bt213.2.1, true)) else (if bt213.2.2.2.toList = ([115, 111] : List UInt8) then (ferryref07_Encode.j0 k ((a0_1) % 4294967296) ((a0_2) % 4294967296) ((a0_4) % 4294967296) ((bt213.1 * 67108864) % 4294967296) bt213.2.2.2 (bt213.2.2.2.toList == ([115, 111] : List UInt8)) a0_0 a0_1 a0_2 a0_3 a0_4 a0_5 bt213.1 bt213.2.1 bt213.2.2.1 bt213.2.2.2) else (if bt213.2.2.2.toList = ([115, 116, 111] : List UInt8) then (ferryref07_Encode.j0 k ((a0_1) % 4294967296) ((a0_2) % 4294967296) ((a0_4) % 4294967296) ((bt213.1 * 67108864) % 4294967296) bt213.2.2.2 (bt213.2.2.2.toList == ([115, 116, 111] : List UInt8)) a0_0 a0_1 a0_2 a0_3 a0_4 a0_5 bt213.1 bt213.2.1 bt213.2.2.1 bt213.2.2.2) else (if bt213.2.2.2.toList = ([116, 115, 105] : List UInt8) then (ferryref07_Encode.j0 k ((a0_1) % 4294967296) ((a0_2) % 4294967296) ((a0_4) % 4294967296) ((bt213.1 * 67108864) % 4294967296) bt213.2.2.2 (bt213.2.2.2.toList == ([116, 115, 105] : List UInt8)) a0_0 a0_1 a0_2 a0_3 a0_4 a0_5 bt213.1 bt213.2.1 bt213.2.2.1 bt213.2.2.2) else (if bt213.2.2.2.toList = ([116, 105] : List UInt8) then (ferryref07_Encode.j0 k ((a0_1) % 4294967296) ((a0_2) % 4294967296) ((a0_4) % 4294967296) ((bt213.1 * 67108864) % 4294967296) bt213.2.2.2 (bt213.2.2.2.toList == ([116, 105] : List UInt8)) a0_0 a0_1 a0_2 a0_3 a0_4 a0_5 bt213.1 bt213.2.1 bt213.2.2.1 bt213.2.2.2) else (ferryref07_Encode.j0 k ((a0_1) % 4294967296) ((a0_2) % 4294967296) ((a0_4) % 4294967296) ((bt213.1 * 67108864) % 4294967296) bt213.2.2.2 (bt213.2.2.2.toList == ([116, 109] : List UInt8)) a0_0 a0_1 a0_2 a0_3 a0_4 a0_5 bt213.1 bt213.2.1 bt213.2.2.1 bt213.2.2.2))))))) else (some (0, false))))
end Go.Proofs.YtnddjndgfaefaaaDoor.F
end
section
namespace Go.Proofs.YtnddjndgfaefaaaDoor.F
set_option linter.unusedVariables false
set_option linter.unusedSimpArgs false
open Go.RowKit Go.Proofs.YtnddjndgfaefaaaDoorW.PrintWords Go.Proofs.YtnddjndgfaefaaaDoorW.PrintLast Go.Proofs.YtnddjndgfaefaaaDoorW.PrintMore
attribute [local irreducible] dec_Encode.f dec_Form.f ferryref07_Encode.f
theorem lb (l : List UInt8) : (⟨l.toArray⟩ : ByteArray).toList = l := by rw [ByteArray.toList_eq]
end Go.Proofs.YtnddjndgfaefaaaDoor.F
end
section
namespace Go.Proofs.YtnddjndgfaefaaaDoor.F
set_option linter.unusedVariables false
set_option linter.unusedSimpArgs false
open Go.RowKit Go.Proofs.YtnddjndgfaefaaaDoorW.PrintWords Go.Proofs.YtnddjndgfaefaaaDoorW.PrintLast Go.Proofs.YtnddjndgfaefaaaDoorW.PrintMore

theorem alu_awake : ferrylaw09_awake.f = some true := by decide +kernel
end Go.Proofs.YtnddjndgfaefaaaDoor.F
end
