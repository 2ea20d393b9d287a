import Derived.Below
import Derived.Deep.Draws
import Derived.Deep.AppendLies
import Derived.Maps.AppendAt
import Derived.OwnWalk
import Derived.Laws.BytesArg
import Derived.Laws.MakeOwn
import Derived.Laws.OwnMore
import Derived.Deep.OwnRows
import Derived.Tactics
import Derived.Lib.ConvBytes
import Derived.Laws.Slices
import Derived.WalkKit
import Derived.KernelRfl
import Derived.RowKit3
import Derived.Deep.LoopGhost
import Derived.Deep.QuietTactic
import Derived.BigQuiet
import Derived.WideLaws
import Derived.Deep.DeepCutAuto
import Derived.Deep.CutBlock
import Derived.Deep.RegionHeld3
import Derived.Laws.Rows
import Derived.Lib.AppendStr
import Derived.ArgAppend
import Derived.Laws.IdiomCopy
import Derived.RowKit
import Derived.OrdersHeld
import Derived.Laws.BitsLemmas
import Derived.Laws.StructEq
import Derived.OwnWalkIn
import Derived.WalkSmall
import Derived.Laws.ResultCell
import Derived.RangeFuncRecord
import Derived.ProofKit
import Derived.Lib.Hide
import Derived.Deep.RegionWith
import Derived.Test.YtnddjndgfaefaaaDoorVZF0
import Derived.Test.YtnddjndgfaefaaaDoorVA22HDecRef
section
namespace Go.Proofs.YtnddjndgfaefaaaDoor.F
open Go.RowKit Go.Proofs.YtnddjndgfaefaaaDoorW.PrintWords Go.Proofs.YtnddjndgfaefaaaDoorW.PrintLast Go.Proofs.YtnddjndgfaefaaaDoorW.PrintMore
theorem field60_3 (x0 : Int) (x1 : Int) (x2 : Int) (x3 : ByteArray) (w : World) : (Instr.field 60 (.agg #[.int .u32 x0, .int .u32 x1, .int .u32 x2, .string x3]) 3).run Tryd.prog w = .ok (.string x3) w := by kernel_rfl
attribute [local go_sem] field60_3
set_option linter.unusedVariables false
set_option linter.unusedSimpArgs false
def immTop (wd : Int) : Int := if wd = 16 then 65536 else if wd = 20 then 1048576 else if wd = 26 then 67108864 else 1
def ferryref07_fit.f (a0_0 : ByteArray) (a0_1 : Int) (a0_2 : Int) (a0_3 : Int) (a0_4 : Int) (a0_5 : Int) (a1_0 : Int) (a1_1 : Int) (a1_2 : Int) (a1_3 : ByteArray) : Option Bool :=
  (regsOf a1_3.toList).map fun r => fitIf a0_0.toList a1_3.toList (fitsOf a0_1 r.2.1.1) (fitsOf a0_2 r.2.1.2.1) (fitsOf a0_3 r.2.1.2.2.1) (fitsOf a0_4 r.2.1.2.2.2) (decide (immTop r.2.2 ≤ a0_5)) a0_3 a0_4
theorem tops_all : regTable.all (fun r => r.2.2 == 16 || r.2.2 == 20 || r.2.2 == 26 || r.2.2 == 0) = true := by decide +kernel
theorem top_shift (wd : Int) (h : (wd == 16 || wd == 20 || wd == 26 || wd == 0) = true) (W : World) : (Op.shift .shl .u32 1 .u32 wd).run Tryd.prog W = .ok (.int .u32 (immTop wd)) W := by
  simp only [Bool.or_eq_true, beq_iff_eq] at h
  rcases h with ((rfl | rfl) | rfl) | rfl
  · kernel_rfl
  · kernel_rfl
  · kernel_rfl
  · kernel_rfl
theorem ferryref07_fit.calls (a0_0 : ByteArray) (a0_1 : Int) (a0_2 : Int) (a0_3 : Int) (a0_4 : Int) (a0_5 : Int) (a1_0 : Int) (a1_1 : Int) (a1_2 : Int) (a1_3 : ByteArray) (r : Bool) (w : World) (h : ferryref07_fit.f a0_0 a0_1 a0_2 a0_3 a0_4 a0_5 a1_0 a1_1 a1_2 a1_3 = some r) :
    Calls Tryd.prog 42 #[.agg #[.string a0_0, .int .i64 a0_1, .int .i64 a0_2, .int .i64 a0_3, .int .i64 a0_4, .int .u32 a0_5], .agg #[.int .u32 a1_0, .int .u32 a1_1, .int .u32 a1_2, .string a1_3]] w fun e w' => e = .returned (.bool r) ∧ Below w.heap.size w w' := by
  unfold ferryref07_fit.f at h
  cases hr : regsOf a1_3.toList with
  | none =>
    rw [hr] at h
    cases h
  | some q =>
    rw [hr] at h
    simp only [Option.map_some, Option.some.injEq] at h
    have hf := regs_fits a1_3 q hr
    have ht := List.all_eq_true.1 tops_all q hf.1
    exact fit_walk a0_0 a0_1 a0_2 a0_3 a0_4 a0_5 a1_0 a1_1 a1_2 a1_3 q.2.1.1 q.2.1.2.1 q.2.1.2.2.1 q.2.1.2.2.2 q.2.2 (immTop q.2.2) w (registers_calls a1_3 q hr) hf.2.2.2.2 (top_shift q.2.2 ht) r h
end Go.Proofs.YtnddjndgfaefaaaDoor.F
end
