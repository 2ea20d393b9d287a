import Derived.Below
import Derived.Deep.Draws
import Derived.Deep.AppendLies
import Derived.Maps.AppendAt
import Derived.OwnWalk
import Derived.Laws.BytesArg
import Derived.Laws.MakeOwn
import Derived.Laws.OwnMore
import Derived.Deep.OwnRows
import Derived.Tactics
import Derived.Lib.ConvBytes
import Derived.Laws.Slices
import Derived.WalkKit
import Derived.KernelRfl
import Derived.RowKit3
import Derived.Deep.LoopGhost
import Derived.Deep.QuietTactic
import Derived.BigQuiet
import Derived.WideLaws
import Derived.Deep.DeepCutAuto
import Derived.Deep.CutBlock
import Derived.Deep.RegionHeld3
import Derived.Laws.Rows
import Derived.Lib.AppendStr
import Derived.ArgAppend
import Derived.Laws.IdiomCopy
import Derived.RowKit
import Derived.OpenShut
import Derived.ProofKit
import Derived.Deep.Slices
import Derived.SizedLaws
import Derived.OrdersHeld
import Derived.Laws.BitsLemmas
import Derived.Laws.StructEq
import Derived.Shelf.Small.Bits
import Derived.Shelf.LaysM
import Derived.Shelf.Strings.Fields
import Derived.Shelf.Strings.Replace
import Derived.Shelf.Strings.SplitShaped
import Derived.Lib.LaidTab
import Derived.Shelf.Abstract
import Derived.RangeFuncRecord
import Derived.Lib.Hide
import Derived.Maps.OwnOps
import Derived.OwnWalkIn
import Derived.WalkSmall
import Derived.Laws.ResultCell
import Derived.Shelf.RegionOpen
import Derived.Deep.RegionWith
import Derived.Test.YtnddjndgfaefaaaDoorZF0
section
namespace Go.Proofs.YtnddjndgfaefaaaDoor.Opens
open Go.ChangeShapes Go.WideShapes Go.RowKit Go.Deep
open Go.Proofs.YtnddjndgfaefaaaDoorW.PrintWords

def Opens {α : Type} (P : Program) (t : TypeId) (d : Kd α) (wf : α → Prop) : Prop :=
  P.cellsOf t = d.sz ∧ ∀ {H : Type} (enc : TypeId × Value → H) (w : World) (base : Nat) (spare : Nat → Bool) (held : Bool) (fuel : Nat) (cs : List Value) (x : DataW H × List MemPlace),
    DataW.trod enc P w base spare held fuel t cs = some x → ∃ a : α, d.K w a cs ∧ wf a
theorem wf_u32 {n : Int} (h : (Lit.int .u32 n).wf = true) : 0 ≤ n ∧ n ≤ 4294967295 := by
  simp only [Lit.wf, Bool.and_eq_true, decide_eq_true_eq] at h
  exact ⟨h.1, h.2⟩
end Go.Proofs.YtnddjndgfaefaaaDoor.Opens
end
section
namespace Go.Proofs.YtnddjndgfaefaaaDoor.F
open Go.RowKit
set_option linter.unusedVariables false
set_option linter.unusedSimpArgs false
def mkW (o s t d a f : Nat) : Nat := 67108864 * o + (2097152 * s + (65536 * t + (2048 * d + (64 * a + f))))
end Go.Proofs.YtnddjndgfaefaaaDoor.F
end
section
namespace Go.Proofs.YtnddjndgfaefaaaDoor.F
open Go.RowKit Go.Proofs.YtnddjndgfaefaaaDoorW.PrintWords Go.Proofs.YtnddjndgfaefaaaDoorW.PrintLast Go.Proofs.YtnddjndgfaefaaaDoorW.PrintMore
set_option linter.unusedVariables false
set_option linter.unusedSimpArgs false
def W (o s t d a f : Nat) : Nat := mkW (o % 64) (s % 32) (t % 32) (d % 32) (a % 32) (f % 64)
end Go.Proofs.YtnddjndgfaefaaaDoor.F
end
section
namespace Go.Proofs.YtnddjndgfaefaaaDoor.F
open Go.RowKit Go.Proofs.YtnddjndgfaefaaaDoorW.PrintWords Go.Proofs.YtnddjndgfaefaaaDoorW.PrintLast Go.Proofs.YtnddjndgfaefaaaDoorW.PrintMore
attribute [local go_sem] max2_int min2_int max_two min_two max_three min_three max_four min_four
set_option linter.unusedVariables false
set_option linter.unusedSimpArgs false

def ferryref07_fits.f (a0 : Int) (a1 : Bool) : Option (Bool) := if a0 = 0 then (some true) else (if a1 = true then (if a0 > 0 then (some (decide (a0 < 32))) else (some false)) else (some false))
end Go.Proofs.YtnddjndgfaefaaaDoor.F
end
section
namespace Go.Proofs.YtnddjndgfaefaaaDoor.F
open Go.RowKit Go.Proofs.YtnddjndgfaefaaaDoorW.PrintWords Go.Proofs.YtnddjndgfaefaaaDoorW.PrintLast Go.Proofs.YtnddjndgfaefaaaDoorW.PrintMore
set_option linter.unusedVariables false
set_option linter.unusedSimpArgs false
def ferryref07_memory.f (a0 : ByteArray) : Option (Int × Int × Int × ByteArray) :=
  if a0.toList = [114, 111, 116, 114] then some (0, 2, 0, (⟨#[100, 116, 114]⟩ : ByteArray)) else
  if a0.toList = [114, 111, 116, 114, 118] then some (0, 6, 0, (⟨#[100, 116, 118]⟩ : ByteArray)) else
  if a0.toList = [108, 98] then some (32, 0, 0, (⟨#[116, 109]⟩ : ByteArray)) else
  if a0.toList = [108, 104] then some (33, 0, 0, (⟨#[116, 109]⟩ : ByteArray)) else
  if a0.toList = [108, 119, 108] then some (34, 0, 0, (⟨#[116, 109]⟩ : ByteArray)) else
  if a0.toList = [108, 119] then some (35, 0, 0, (⟨#[116, 109]⟩ : ByteArray)) else
  if a0.toList = [108, 98, 117] then some (36, 0, 0, (⟨#[116, 109]⟩ : ByteArray)) else
  if a0.toList = [108, 104, 117] then some (37, 0, 0, (⟨#[116, 109]⟩ : ByteArray)) else
  if a0.toList = [108, 119, 114] then some (38, 0, 0, (⟨#[116, 109]⟩ : ByteArray)) else
  if a0.toList = [115, 98] then some (40, 0, 0, (⟨#[116, 109]⟩ : ByteArray)) else
  if a0.toList = [115, 104] then some (41, 0, 0, (⟨#[116, 109]⟩ : ByteArray)) else
  if a0.toList = [115, 119, 108] then some (42, 0, 0, (⟨#[116, 109]⟩ : ByteArray)) else
  if a0.toList = [115, 119] then some (43, 0, 0, (⟨#[116, 109]⟩ : ByteArray)) else
  if a0.toList = [115, 119, 114] then some (46, 0, 0, (⟨#[116, 109]⟩ : ByteArray)) else
  if a0.toList = [108, 108] then some (48, 0, 0, (⟨#[116, 109]⟩ : ByteArray)) else
  if a0.toList = [115, 99] then some (56, 0, 0, (⟨#[116, 109]⟩ : ByteArray)) else
  some (0, 0, 0, (⟨#[]⟩ : ByteArray))
def ferryref07_other.f (a0 : ByteArray) : Option (Int × Int × Int × ByteArray) :=
  if a0.toList = [98, 108, 116, 122] then some (1, 0, 0, (⟨#[115, 111]⟩ : ByteArray)) else
  if a0.toList = [98, 103, 101, 122] then some (1, 1, 0, (⟨#[115, 111]⟩ : ByteArray)) else
  if a0.toList = [98, 108, 116, 122, 97, 108] then some (1, 16, 0, (⟨#[115, 111]⟩ : ByteArray)) else
  if a0.toList = [98, 103, 101, 122, 97, 108] then some (1, 17, 0, (⟨#[115, 111]⟩ : ByteArray)) else
  if a0.toList = [106] then some (2, 0, 0, (⟨#[106]⟩ : ByteArray)) else
  if a0.toList = [106, 97, 108] then some (3, 0, 0, (⟨#[106]⟩ : ByteArray)) else
  if a0.toList = [98, 101, 113] then some (4, 0, 0, (⟨#[115, 116, 111]⟩ : ByteArray)) else
  if a0.toList = [98, 110, 101] then some (5, 0, 0, (⟨#[115, 116, 111]⟩ : ByteArray)) else
  if a0.toList = [98, 108, 101, 122] then some (6, 0, 0, (⟨#[115, 111]⟩ : ByteArray)) else
  if a0.toList = [98, 103, 116, 122] then some (7, 0, 0, (⟨#[115, 111]⟩ : ByteArray)) else
  if a0.toList = [97, 100, 100, 105] then some (8, 0, 0, (⟨#[116, 115, 105]⟩ : ByteArray)) else
  if a0.toList = [97, 100, 100, 105, 117] then some (9, 0, 0, (⟨#[116, 115, 105]⟩ : ByteArray)) else
  if a0.toList = [115, 108, 116, 105] then some (10, 0, 0, (⟨#[116, 115, 105]⟩ : ByteArray)) else
  if a0.toList = [115, 108, 116, 105, 117] then some (11, 0, 0, (⟨#[116, 115, 105]⟩ : ByteArray)) else
  if a0.toList = [97, 110, 100, 105] then some (12, 0, 0, (⟨#[116, 115, 105]⟩ : ByteArray)) else
  if a0.toList = [111, 114, 105] then some (13, 0, 0, (⟨#[116, 115, 105]⟩ : ByteArray)) else
  if a0.toList = [120, 111, 114, 105] then some (14, 0, 0, (⟨#[116, 115, 105]⟩ : ByteArray)) else
  if a0.toList = [108, 117, 105] then some (15, 0, 0, (⟨#[116, 105]⟩ : ByteArray)) else
  if a0.toList = [109, 97, 100, 100] then some (28, 0, 0, (⟨#[115, 116]⟩ : ByteArray)) else
  if a0.toList = [109, 97, 100, 100, 117] then some (28, 1, 0, (⟨#[115, 116]⟩ : ByteArray)) else
  if a0.toList = [109, 117, 108] then some (28, 2, 0, (⟨#[100, 115, 116]⟩ : ByteArray)) else
  if a0.toList = [109, 115, 117, 98] then some (28, 4, 0, (⟨#[115, 116]⟩ : ByteArray)) else
  if a0.toList = [109, 115, 117, 98, 117] then some (28, 5, 0, (⟨#[115, 116]⟩ : ByteArray)) else
  if a0.toList = [99, 108, 122] then some (28, 32, 0, (⟨#[100, 115, 100]⟩ : ByteArray)) else
  if a0.toList = [99, 108, 111] then some (28, 33, 0, (⟨#[100, 115, 100]⟩ : ByteArray)) else
  if a0.toList = [101, 120, 116] then some (31, 0, 0, (⟨#[116, 115, 120]⟩ : ByteArray)) else
  if a0.toList = [105, 110, 115] then some (31, 4, 0, (⟨#[116, 115, 120]⟩ : ByteArray)) else
  if a0.toList = [119, 115, 98, 104] then some (31, 32, 2, (⟨#[100, 116]⟩ : ByteArray)) else
  if a0.toList = [115, 101, 98] then some (31, 32, 16, (⟨#[100, 116]⟩ : ByteArray)) else
  if a0.toList = [115, 101, 104] then some (31, 32, 24, (⟨#[100, 116]⟩ : ByteArray)) else
  if a0.toList = [114, 100, 104, 119, 114] then some (31, 59, 0, (⟨#[116, 100]⟩ : ByteArray)) else
  (ferryref07_memory.f a0).bind fun q => some (q.1, q.2.1, q.2.2.1, q.2.2.2)
def ferryref07_special.f (a0 : ByteArray) : Option (Int × Int × Int × ByteArray) :=
  if a0.toList = [115, 108, 108] then some (0, 0, 0, (⟨#[100, 116, 97]⟩ : ByteArray)) else
  if a0.toList = [115, 114, 108] then some (0, 2, 0, (⟨#[100, 116, 97]⟩ : ByteArray)) else
  if a0.toList = [115, 114, 97] then some (0, 3, 0, (⟨#[100, 116, 97]⟩ : ByteArray)) else
  if a0.toList = [115, 108, 108, 118] then some (0, 4, 0, (⟨#[100, 116, 115]⟩ : ByteArray)) else
  if a0.toList = [115, 114, 108, 118] then some (0, 6, 0, (⟨#[100, 116, 115]⟩ : ByteArray)) else
  if a0.toList = [115, 114, 97, 118] then some (0, 7, 0, (⟨#[100, 116, 115]⟩ : ByteArray)) else
  if a0.toList = [106, 114] then some (0, 8, 0, (⟨#[115]⟩ : ByteArray)) else
  if a0.toList = [106, 97, 108, 114] then some (0, 9, 0, (⟨#[100, 115]⟩ : ByteArray)) else
  if a0.toList = [109, 111, 118, 122] then some (0, 10, 0, (⟨#[100, 115, 116]⟩ : ByteArray)) else
  if a0.toList = [109, 111, 118, 110] then some (0, 11, 0, (⟨#[100, 115, 116]⟩ : ByteArray)) else
  if a0.toList = [115, 121, 115, 99, 97, 108, 108] then some (0, 12, 0, (⟨#[99]⟩ : ByteArray)) else
  if a0.toList = [98, 114, 101, 97, 107] then some (0, 13, 0, (⟨#[99]⟩ : ByteArray)) else
  if a0.toList = [109, 102, 104, 105] then some (0, 16, 0, (⟨#[100]⟩ : ByteArray)) else
  if a0.toList = [109, 116, 104, 105] then some (0, 17, 0, (⟨#[115]⟩ : ByteArray)) else
  if a0.toList = [109, 102, 108, 111] then some (0, 18, 0, (⟨#[100]⟩ : ByteArray)) else
  if a0.toList = [109, 116, 108, 111] then some (0, 19, 0, (⟨#[115]⟩ : ByteArray)) else
  if a0.toList = [109, 117, 108, 116] then some (0, 24, 0, (⟨#[115, 116]⟩ : ByteArray)) else
  if a0.toList = [109, 117, 108, 116, 117] then some (0, 25, 0, (⟨#[115, 116]⟩ : ByteArray)) else
  if a0.toList = [100, 105, 118] then some (0, 26, 0, (⟨#[115, 116]⟩ : ByteArray)) else
  if a0.toList = [100, 105, 118, 117] then some (0, 27, 0, (⟨#[115, 116]⟩ : ByteArray)) else
  if a0.toList = [97, 100, 100] then some (0, 32, 0, (⟨#[100, 115, 116]⟩ : ByteArray)) else
  if a0.toList = [97, 100, 100, 117] then some (0, 33, 0, (⟨#[100, 115, 116]⟩ : ByteArray)) else
  if a0.toList = [115, 117, 98] then some (0, 34, 0, (⟨#[100, 115, 116]⟩ : ByteArray)) else
  if a0.toList = [115, 117, 98, 117] then some (0, 35, 0, (⟨#[100, 115, 116]⟩ : ByteArray)) else
  if a0.toList = [97, 110, 100] then some (0, 36, 0, (⟨#[100, 115, 116]⟩ : ByteArray)) else
  if a0.toList = [111, 114] then some (0, 37, 0, (⟨#[100, 115, 116]⟩ : ByteArray)) else
  if a0.toList = [120, 111, 114] then some (0, 38, 0, (⟨#[100, 115, 116]⟩ : ByteArray)) else
  if a0.toList = [110, 111, 114] then some (0, 39, 0, (⟨#[100, 115, 116]⟩ : ByteArray)) else
  if a0.toList = [115, 108, 116] then some (0, 42, 0, (⟨#[100, 115, 116]⟩ : ByteArray)) else
  if a0.toList = [115, 108, 116, 117] then some (0, 43, 0, (⟨#[100, 115, 116]⟩ : ByteArray)) else
  if a0.toList = [116, 103, 101] then some (0, 48, 0, (⟨#[115, 116]⟩ : ByteArray)) else
  if a0.toList = [116, 103, 101, 117] then some (0, 49, 0, (⟨#[115, 116]⟩ : ByteArray)) else
  if a0.toList = [116, 108, 116] then some (0, 50, 0, (⟨#[115, 116]⟩ : ByteArray)) else
  if a0.toList = [116, 108, 116, 117] then some (0, 51, 0, (⟨#[115, 116]⟩ : ByteArray)) else
  if a0.toList = [116, 101, 113] then some (0, 52, 0, (⟨#[115, 116]⟩ : ByteArray)) else
  if a0.toList = [116, 110, 101] then some (0, 54, 0, (⟨#[115, 116]⟩ : ByteArray)) else
  (ferryref07_other.f a0).bind fun q => some (q.1, q.2.1, q.2.2.1, q.2.2.2)
end Go.Proofs.YtnddjndgfaefaaaDoor.F
end
