import Derived.Below
import Derived.Deep.Draws
import Derived.Deep.AppendLies
import Derived.Maps.AppendAt
import Derived.OwnWalk
import Derived.Laws.BytesArg
import Derived.Laws.MakeOwn
import Derived.Laws.OwnMore
import Derived.Deep.OwnRows
import Derived.Tactics
import Derived.Lib.ConvBytes
import Derived.Laws.Slices
import Derived.WalkKit
import Derived.KernelRfl
import Derived.RowKit3
import Derived.Deep.LoopGhost
import Derived.Deep.QuietTactic
import Derived.BigQuiet
import Derived.WideLaws
import Derived.Deep.DeepCutAuto
import Derived.Deep.CutBlock
import Derived.Deep.RegionHeld3
import Derived.Laws.Rows
import Derived.Lib.AppendStr
import Derived.ArgAppend
import Derived.Laws.IdiomCopy
import Derived.RowKit
import Derived.OrdersHeld
import Derived.Laws.BitsLemmas
import Derived.Laws.StructEq
import Derived.Shelf.Small.Bits
import Derived.Shelf.LaysM
import Derived.Shelf.Strings.Fields
import Derived.Shelf.Strings.Replace
import Derived.Shelf.Strings.SplitShaped
import Derived.Lib.LaidTab
import Derived.Shelf.Abstract
import Derived.RangeFuncRecord
import Derived.ProofKit
import Derived.Lib.Hide
import Derived.Maps.OwnOps
import Derived.OwnWalkIn
import Derived.WalkSmall
import Derived.Laws.ResultCell
import Derived.Shelf.RegionOpen
import Derived.Deep.RegionWith
import Derived.Test.YtnddjndgfaefaaaDoorVZF0
import Derived.Test.YtnddjndgfaefaaaDoorVA0
import Derived.Test.YtnddjndgfaefaaaDoorVA3HDecTake
import Derived.Test.YtnddjndgfaefaaaDoorVA20
import Derived.Test.YtnddjndgfaefaaaDoorVA24FFerryref07Encode
import Derived.Test.YtnddjndgfaefaaaDoorVA25
section
namespace Go.Proofs.YtnddjndgfaefaaaDoor.F
open Go.RowKit Go.Shelf Go.Proofs.YtnddjndgfaefaaaDoorW.PrintWords Go.Proofs.YtnddjndgfaefaaaDoorW.PrintLast Go.Proofs.YtnddjndgfaefaaaDoorW.PrintMore
set_option linter.unusedVariables false
set_option linter.unusedSimpArgs false
-- HAND fn=ferry/ferryref09.Known ; rounds=0 ; making=0 ; laid=0
def ferryref09_Known.f (a0 : ByteArray) : Option Bool :=
  if a0.toList = [97, 100, 100] then some true else
  if a0.toList = [115, 117, 98] then some true else
  if a0.toList = [97, 100, 100, 105] then some true else
  if a0.toList = [97, 100, 100, 117] then some true else
  if a0.toList = [115, 117, 98, 117] then some true else
  if a0.toList = [97, 100, 100, 105, 117] then some true else
  if a0.toList = [97, 110, 100] then some true else
  if a0.toList = [111, 114] then some true else
  if a0.toList = [120, 111, 114] then some true else
  if a0.toList = [110, 111, 114] then some true else
  if a0.toList = [97, 110, 100, 105] then some true else
  if a0.toList = [111, 114, 105] then some true else
  if a0.toList = [120, 111, 114, 105] then some true else
  if a0.toList = [115, 108, 116] then some true else
  if a0.toList = [115, 108, 116, 117] then some true else
  if a0.toList = [115, 108, 116, 105] then some true else
  if a0.toList = [115, 108, 116, 105, 117] then some true else
  if a0.toList = [108, 117, 105] then some true else
  if a0.toList = [115, 108, 108] then some true else
  if a0.toList = [115, 114, 108] then some true else
  if a0.toList = [115, 114, 97] then some true else
  if a0.toList = [115, 108, 108, 118] then some true else
  if a0.toList = [115, 114, 108, 118] then some true else
  if a0.toList = [115, 114, 97, 118] then some true else
  if a0.toList = [114, 111, 116, 114] then some true else
  if a0.toList = [114, 111, 116, 114, 118] then some true else
  if a0.toList = [109, 117, 108] then some true else
  if a0.toList = [99, 108, 122] then some true else
  if a0.toList = [99, 108, 111] then some true else
  if a0.toList = [101, 120, 116] then some true else
  if a0.toList = [105, 110, 115] then some true else
  if a0.toList = [119, 115, 98, 104] then some true else
  if a0.toList = [115, 101, 98] then some true else
  if a0.toList = [115, 101, 104] then some true else
  some false
set_option maxHeartbeats 8000000 in
set_option maxRecDepth 100000 in
theorem ferryref09_Known.calls (a0 : ByteArray) (r : Bool) (w : World) (h : ferryref09_Known.f a0 = some r) :
    Calls Tryd.prog 13 #[.string a0] w fun e w' => e = .returned (.bool r) ∧ Drawn0 w w' := by
  unfold ferryref09_Known.f at h
  generalize a0 = nm at h ⊢
  by_cases g : nm.toList = [97, 100, 100]
  · rw [if_pos g] at h
    have e0 : (nm.toList == [97, 100, 100]) = true := beq_iff_eq.2 g
    clear g
    obtain rfl := Option.some.inj h
    go_enter Tryd.func13, Tryd.ntmps13
    go_wp2
    go_ret
    exact ⟨rfl, Drawn0.refl _⟩
  rw [if_neg g] at h
  have e0 : (nm.toList == [97, 100, 100]) = false := beq_eq_false_iff_ne.2 g
  clear g
  by_cases g : nm.toList = [115, 117, 98]
  · rw [if_pos g] at h
    have e1 : (nm.toList == [115, 117, 98]) = true := beq_iff_eq.2 g
    clear g
    obtain rfl := Option.some.inj h
    go_enter Tryd.func13, Tryd.ntmps13
    go_wp2
    go_ret
    exact ⟨rfl, Drawn0.refl _⟩
  rw [if_neg g] at h
  have e1 : (nm.toList == [115, 117, 98]) = false := beq_eq_false_iff_ne.2 g
  clear g
  by_cases g : nm.toList = [97, 100, 100, 105]
  · rw [if_pos g] at h
    have e2 : (nm.toList == [97, 100, 100, 105]) = true := beq_iff_eq.2 g
    clear g
    obtain rfl := Option.some.inj h
    go_enter Tryd.func13, Tryd.ntmps13
    go_wp2
    go_ret
    exact ⟨rfl, Drawn0.refl _⟩
  rw [if_neg g] at h
  have e2 : (nm.toList == [97, 100, 100, 105]) = false := beq_eq_false_iff_ne.2 g
  clear g
  by_cases g : nm.toList = [97, 100, 100, 117]
  · rw [if_pos g] at h
    have e3 : (nm.toList == [97, 100, 100, 117]) = true := beq_iff_eq.2 g
    clear g
    obtain rfl := Option.some.inj h
    go_enter Tryd.func13, Tryd.ntmps13
    go_wp2
    go_ret
    exact ⟨rfl, Drawn0.refl _⟩
  rw [if_neg g] at h
  have e3 : (nm.toList == [97, 100, 100, 117]) = false := beq_eq_false_iff_ne.2 g
  clear g
  by_cases g : nm.toList = [115, 117, 98, 117]
  · rw [if_pos g] at h
    have e4 : (nm.toList == [115, 117, 98, 117]) = true := beq_iff_eq.2 g
    clear g
    obtain rfl := Option.some.inj h
    go_enter Tryd.func13, Tryd.ntmps13
    go_wp2
    go_ret
    exact ⟨rfl, Drawn0.refl _⟩
  rw [if_neg g] at h
  have e4 : (nm.toList == [115, 117, 98, 117]) = false := beq_eq_false_iff_ne.2 g
  clear g
  by_cases g : nm.toList = [97, 100, 100, 105, 117]
  · rw [if_pos g] at h
    have e5 : (nm.toList == [97, 100, 100, 105, 117]) = true := beq_iff_eq.2 g
    clear g
    obtain rfl := Option.some.inj h
    go_enter Tryd.func13, Tryd.ntmps13
    go_wp2
    go_ret
    exact ⟨rfl, Drawn0.refl _⟩
  rw [if_neg g] at h
  have e5 : (nm.toList == [97, 100, 100, 105, 117]) = false := beq_eq_false_iff_ne.2 g
  clear g
  by_cases g : nm.toList = [97, 110, 100]
  · rw [if_pos g] at h
    have e6 : (nm.toList == [97, 110, 100]) = true := beq_iff_eq.2 g
    clear g
    obtain rfl := Option.some.inj h
    go_enter Tryd.func13, Tryd.ntmps13
    go_wp2
    go_ret
    exact ⟨rfl, Drawn0.refl _⟩
  rw [if_neg g] at h
  have e6 : (nm.toList == [97, 110, 100]) = false := beq_eq_false_iff_ne.2 g
  clear g
  by_cases g : nm.toList = [111, 114]
  · rw [if_pos g] at h
    have e7 : (nm.toList == [111, 114]) = true := beq_iff_eq.2 g
    clear g
    obtain rfl := Option.some.inj h
    go_enter Tryd.func13, Tryd.ntmps13
    go_wp2
    go_ret
    exact ⟨rfl, Drawn0.refl _⟩
  rw [if_neg g] at h
  have e7 : (nm.toList == [111, 114]) = false := beq_eq_false_iff_ne.2 g
  clear g
  by_cases g : nm.toList = [120, 111, 114]
  · rw [if_pos g] at h
    have e8 : (nm.toList == [120, 111, 114]) = true := beq_iff_eq.2 g
    clear g
    obtain rfl := Option.some.inj h
    go_enter Tryd.func13, Tryd.ntmps13
    go_wp2
    go_ret
    exact ⟨rfl, Drawn0.refl _⟩
  rw [if_neg g] at h
  have e8 : (nm.toList == [120, 111, 114]) = false := beq_eq_false_iff_ne.2 g
  clear g
  by_cases g : nm.toList = [110, 111, 114]
  · rw [if_pos g] at h
    have e9 : (nm.toList == [110, 111, 114]) = true := beq_iff_eq.2 g
    clear g
    obtain rfl := Option.some.inj h
    go_enter Tryd.func13, Tryd.ntmps13
    go_wp2
    go_ret
    exact ⟨rfl, Drawn0.refl _⟩
  rw [if_neg g] at h
  have e9 : (nm.toList == [110, 111, 114]) = false := beq_eq_false_iff_ne.2 g
  clear g
  by_cases g : nm.toList = [97, 110, 100, 105]
  · rw [if_pos g] at h
    have e10 : (nm.toList == [97, 110, 100, 105]) = true := beq_iff_eq.2 g
    clear g
    obtain rfl := Option.some.inj h
    go_enter Tryd.func13, Tryd.ntmps13
    go_wp2
    go_ret
    exact ⟨rfl, Drawn0.refl _⟩
  rw [if_neg g] at h
  have e10 : (nm.toList == [97, 110, 100, 105]) = false := beq_eq_false_iff_ne.2 g
  clear g
  by_cases g : nm.toList = [111, 114, 105]
  · rw [if_pos g] at h
    have e11 : (nm.toList == [111, 114, 105]) = true := beq_iff_eq.2 g
    clear g
    obtain rfl := Option.some.inj h
    go_enter Tryd.func13, Tryd.ntmps13
    go_wp2
    go_ret
    exact ⟨rfl, Drawn0.refl _⟩
  rw [if_neg g] at h
  have e11 : (nm.toList == [111, 114, 105]) = false := beq_eq_false_iff_ne.2 g
  clear g
  by_cases g : nm.toList = [120, 111, 114, 105]
  · rw [if_pos g] at h
    have e12 : (nm.toList == [120, 111, 114, 105]) = true := beq_iff_eq.2 g
    clear g
    obtain rfl := Option.some.inj h
    go_enter Tryd.func13, Tryd.ntmps13
    go_wp2
    go_ret
    exact ⟨rfl, Drawn0.refl _⟩
  rw [if_neg g] at h
  have e12 : (nm.toList == [120, 111, 114, 105]) = false := beq_eq_false_iff_ne.2 g
  clear g
  by_cases g : nm.toList = [115, 108, 116]
  · rw [if_pos g] at h
    have e13 : (nm.toList == [115, 108, 116]) = true := beq_iff_eq.2 g
    clear g
    obtain rfl := Option.some.inj h
    go_enter Tryd.func13, Tryd.ntmps13
    go_wp2
    go_ret
    exact ⟨rfl, Drawn0.refl _⟩
  rw [if_neg g] at h
  have e13 : (nm.toList == [115, 108, 116]) = false := beq_eq_false_iff_ne.2 g
  clear g
  by_cases g : nm.toList = [115, 108, 116, 117]
  · rw [if_pos g] at h
    have e14 : (nm.toList == [115, 108, 116, 117]) = true := beq_iff_eq.2 g
    clear g
    obtain rfl := Option.some.inj h
    go_enter Tryd.func13, Tryd.ntmps13
    go_wp2
    go_ret
    exact ⟨rfl, Drawn0.refl _⟩
  rw [if_neg g] at h
  have e14 : (nm.toList == [115, 108, 116, 117]) = false := beq_eq_false_iff_ne.2 g
  clear g
  by_cases g : nm.toList = [115, 108, 116, 105]
  · rw [if_pos g] at h
    have e15 : (nm.toList == [115, 108, 116, 105]) = true := beq_iff_eq.2 g
    clear g
    obtain rfl := Option.some.inj h
    go_enter Tryd.func13, Tryd.ntmps13
    go_wp2
    go_ret
    exact ⟨rfl, Drawn0.refl _⟩
  rw [if_neg g] at h
  have e15 : (nm.toList == [115, 108, 116, 105]) = false := beq_eq_false_iff_ne.2 g
  clear g
  by_cases g : nm.toList = [115, 108, 116, 105, 117]
  · rw [if_pos g] at h
    have e16 : (nm.toList == [115, 108, 116, 105, 117]) = true := beq_iff_eq.2 g
    clear g
    obtain rfl := Option.some.inj h
    go_enter Tryd.func13, Tryd.ntmps13
    go_wp2
    go_ret
    exact ⟨rfl, Drawn0.refl _⟩
  rw [if_neg g] at h
  have e16 : (nm.toList == [115, 108, 116, 105, 117]) = false := beq_eq_false_iff_ne.2 g
  clear g
  by_cases g : nm.toList = [108, 117, 105]
  · rw [if_pos g] at h
    have e17 : (nm.toList == [108, 117, 105]) = true := beq_iff_eq.2 g
    clear g
    obtain rfl := Option.some.inj h
    go_enter Tryd.func13, Tryd.ntmps13
    go_wp2
    go_ret
    exact ⟨rfl, Drawn0.refl _⟩
  rw [if_neg g] at h
  have e17 : (nm.toList == [108, 117, 105]) = false := beq_eq_false_iff_ne.2 g
  clear g
  by_cases g : nm.toList = [115, 108, 108]
  · rw [if_pos g] at h
    have e18 : (nm.toList == [115, 108, 108]) = true := beq_iff_eq.2 g
    clear g
    obtain rfl := Option.some.inj h
    go_enter Tryd.func13, Tryd.ntmps13
    go_wp2
    go_ret
    exact ⟨rfl, Drawn0.refl _⟩
  rw [if_neg g] at h
  have e18 : (nm.toList == [115, 108, 108]) = false := beq_eq_false_iff_ne.2 g
  clear g
  by_cases g : nm.toList = [115, 114, 108]
  · rw [if_pos g] at h
    have e19 : (nm.toList == [115, 114, 108]) = true := beq_iff_eq.2 g
    clear g
    obtain rfl := Option.some.inj h
    go_enter Tryd.func13, Tryd.ntmps13
    go_wp2
    go_ret
    exact ⟨rfl, Drawn0.refl _⟩
  rw [if_neg g] at h
  have e19 : (nm.toList == [115, 114, 108]) = false := beq_eq_false_iff_ne.2 g
  clear g
  by_cases g : nm.toList = [115, 114, 97]
  · rw [if_pos g] at h
    have e20 : (nm.toList == [115, 114, 97]) = true := beq_iff_eq.2 g
    clear g
    obtain rfl := Option.some.inj h
    go_enter Tryd.func13, Tryd.ntmps13
    go_wp2
    go_ret
    exact ⟨rfl, Drawn0.refl _⟩
  rw [if_neg g] at h
  have e20 : (nm.toList == [115, 114, 97]) = false := beq_eq_false_iff_ne.2 g
  clear g
  by_cases g : nm.toList = [115, 108, 108, 118]
  · rw [if_pos g] at h
    have e21 : (nm.toList == [115, 108, 108, 118]) = true := beq_iff_eq.2 g
    clear g
    obtain rfl := Option.some.inj h
    go_enter Tryd.func13, Tryd.ntmps13
    go_wp2
    go_ret
    exact ⟨rfl, Drawn0.refl _⟩
  rw [if_neg g] at h
  have e21 : (nm.toList == [115, 108, 108, 118]) = false := beq_eq_false_iff_ne.2 g
  clear g
  by_cases g : nm.toList = [115, 114, 108, 118]
  · rw [if_pos g] at h
    have e22 : (nm.toList == [115, 114, 108, 118]) = true := beq_iff_eq.2 g
    clear g
    obtain rfl := Option.some.inj h
    go_enter Tryd.func13, Tryd.ntmps13
    go_wp2
    go_ret
    exact ⟨rfl, Drawn0.refl _⟩
  rw [if_neg g] at h
  have e22 : (nm.toList == [115, 114, 108, 118]) = false := beq_eq_false_iff_ne.2 g
  clear g
  by_cases g : nm.toList = [115, 114, 97, 118]
  · rw [if_pos g] at h
    have e23 : (nm.toList == [115, 114, 97, 118]) = true := beq_iff_eq.2 g
    clear g
    obtain rfl := Option.some.inj h
    go_enter Tryd.func13, Tryd.ntmps13
    go_wp2
    go_ret
    exact ⟨rfl, Drawn0.refl _⟩
  rw [if_neg g] at h
  have e23 : (nm.toList == [115, 114, 97, 118]) = false := beq_eq_false_iff_ne.2 g
  clear g
  by_cases g : nm.toList = [114, 111, 116, 114]
  · rw [if_pos g] at h
    have e24 : (nm.toList == [114, 111, 116, 114]) = true := beq_iff_eq.2 g
    clear g
    obtain rfl := Option.some.inj h
    go_enter Tryd.func13, Tryd.ntmps13
    go_wp2
    go_ret
    exact ⟨rfl, Drawn0.refl _⟩
  rw [if_neg g] at h
  have e24 : (nm.toList == [114, 111, 116, 114]) = false := beq_eq_false_iff_ne.2 g
  clear g
  by_cases g : nm.toList = [114, 111, 116, 114, 118]
  · rw [if_pos g] at h
    have e25 : (nm.toList == [114, 111, 116, 114, 118]) = true := beq_iff_eq.2 g
    clear g
    obtain rfl := Option.some.inj h
    go_enter Tryd.func13, Tryd.ntmps13
    go_wp2
    go_ret
    exact ⟨rfl, Drawn0.refl _⟩
  rw [if_neg g] at h
  have e25 : (nm.toList == [114, 111, 116, 114, 118]) = false := beq_eq_false_iff_ne.2 g
  clear g
  by_cases g : nm.toList = [109, 117, 108]
  · rw [if_pos g] at h
    have e26 : (nm.toList == [109, 117, 108]) = true := beq_iff_eq.2 g
    clear g
    obtain rfl := Option.some.inj h
    go_enter Tryd.func13, Tryd.ntmps13
    go_wp2
    go_ret
    exact ⟨rfl, Drawn0.refl _⟩
  rw [if_neg g] at h
  have e26 : (nm.toList == [109, 117, 108]) = false := beq_eq_false_iff_ne.2 g
  clear g
  by_cases g : nm.toList = [99, 108, 122]
  · rw [if_pos g] at h
    have e27 : (nm.toList == [99, 108, 122]) = true := beq_iff_eq.2 g
    clear g
    obtain rfl := Option.some.inj h
    go_enter Tryd.func13, Tryd.ntmps13
    go_wp2
    go_ret
    exact ⟨rfl, Drawn0.refl _⟩
  rw [if_neg g] at h
  have e27 : (nm.toList == [99, 108, 122]) = false := beq_eq_false_iff_ne.2 g
  clear g
  by_cases g : nm.toList = [99, 108, 111]
  · rw [if_pos g] at h
    have e28 : (nm.toList == [99, 108, 111]) = true := beq_iff_eq.2 g
    clear g
    obtain rfl := Option.some.inj h
    go_enter Tryd.func13, Tryd.ntmps13
    go_wp2
    go_ret
    exact ⟨rfl, Drawn0.refl _⟩
  rw [if_neg g] at h
  have e28 : (nm.toList == [99, 108, 111]) = false := beq_eq_false_iff_ne.2 g
  clear g
  by_cases g : nm.toList = [101, 120, 116]
  · rw [if_pos g] at h
    have e29 : (nm.toList == [101, 120, 116]) = true := beq_iff_eq.2 g
    clear g
    obtain rfl := Option.some.inj h
    go_enter Tryd.func13, Tryd.ntmps13
    go_wp2
    go_ret
    exact ⟨rfl, Drawn0.refl _⟩
  rw [if_neg g] at h
  have e29 : (nm.toList == [101, 120, 116]) = false := beq_eq_false_iff_ne.2 g
  clear g
  by_cases g : nm.toList = [105, 110, 115]
  · rw [if_pos g] at h
    have e30 : (nm.toList == [105, 110, 115]) = true := beq_iff_eq.2 g
    clear g
    obtain rfl := Option.some.inj h
    go_enter Tryd.func13, Tryd.ntmps13
    go_wp2
    go_ret
    exact ⟨rfl, Drawn0.refl _⟩
  rw [if_neg g] at h
  have e30 : (nm.toList == [105, 110, 115]) = false := beq_eq_false_iff_ne.2 g
  clear g
  by_cases g : nm.toList = [119, 115, 98, 104]
  · rw [if_pos g] at h
    have e31 : (nm.toList == [119, 115, 98, 104]) = true := beq_iff_eq.2 g
    clear g
    obtain rfl := Option.some.inj h
    go_enter Tryd.func13, Tryd.ntmps13
    go_wp2
    go_ret
    exact ⟨rfl, Drawn0.refl _⟩
  rw [if_neg g] at h
  have e31 : (nm.toList == [119, 115, 98, 104]) = false := beq_eq_false_iff_ne.2 g
  clear g
  by_cases g : nm.toList = [115, 101, 98]
  · rw [if_pos g] at h
    have e32 : (nm.toList == [115, 101, 98]) = true := beq_iff_eq.2 g
    clear g
    obtain rfl := Option.some.inj h
    go_enter Tryd.func13, Tryd.ntmps13
    go_wp2
    go_ret
    exact ⟨rfl, Drawn0.refl _⟩
  rw [if_neg g] at h
  have e32 : (nm.toList == [115, 101, 98]) = false := beq_eq_false_iff_ne.2 g
  clear g
  by_cases g : nm.toList = [115, 101, 104]
  · rw [if_pos g] at h
    have e33 : (nm.toList == [115, 101, 104]) = true := beq_iff_eq.2 g
    clear g
    obtain rfl := Option.some.inj h
    go_enter Tryd.func13, Tryd.ntmps13
    go_wp2
    go_ret
    exact ⟨rfl, Drawn0.refl _⟩
  rw [if_neg g] at h
  have e33 : (nm.toList == [115, 101, 104]) = false := beq_eq_false_iff_ne.2 g
  clear g
  obtain rfl := Option.some.inj h
  go_enter Tryd.func13, Tryd.ntmps13
  go_wp2
  go_ret
  exact ⟨rfl, Drawn0.refl _⟩
structure InsW (nm : ByteArray) (x1 x2 d a i : Int) (w W : World) : Prop where
  box : W.heap[w.heap.size]? = some (.cells #[.string nm, .int .i64 x1, .int .i64 x2, .int .i64 d, .int .i64 a, .int .u32 i] 29 (0, 0))
  bel : Below w.heap.size w W
theorem InsW.first (nm : ByteArray) (x1 x2 d a i : Int) (w : World) : InsW nm x1 x2 d a i w (w.alloc (.cells #[.string nm, .int .i64 x1, .int .i64 x2, .int .i64 d, .int .i64 a, .int .u32 i] 29)) := ⟨World.alloc_heap_new w _, (Below.refl _ w).alloc (Nat.le_refl _) _⟩
theorem InsW.step {nm : ByteArray} {x1 x2 d a i : Int} {w W W' : World} (h : InsW nm x1 x2 d a i w W) (hb : Below W.heap.size W W') : InsW nm x1 x2 d a i w W' := ⟨(hb.block _ (dblk_lt h.box)).trans h.box, h.bel.trans (hb.mono h.bel.size)⟩
theorem InsW.cells {nm : ByteArray} {x1 x2 d a i : Int} {w W : World} (h : InsW nm x1 x2 d a i w W) : W.cell? ⟨w.heap.size, 0, none⟩ = some (.string nm) ∧ W.cell? ⟨w.heap.size, 1, none⟩ = some (.int .i64 x1) ∧ W.cell? ⟨w.heap.size, 2, none⟩ = some (.int .i64 x2) ∧ W.cell? ⟨w.heap.size, 3, none⟩ = some (.int .i64 d) ∧ W.cell? ⟨w.heap.size, 4, none⟩ = some (.int .i64 a) ∧ W.cell? ⟨w.heap.size, 5, none⟩ = some (.int .u32 i) :=
  ⟨dblk_cell h.box rfl, dblk_cell h.box rfl, dblk_cell h.box rfl, dblk_cell h.box rfl, dblk_cell h.box rfl, dblk_cell h.box rfl⟩
-- HAND fn=ferry/ferryref09.fields ; rounds=1 ; making=1 ; laid=0
def ferryref09_fields.f (k : Nat) (nm : ByteArray) (x1 x2 d a i s t : Int) : Option Int :=
  if nm.toList = [101, 120, 116] then if 0 ≤ IntKind.u64.wrap a then (ferryref09_mask.f (wrap64 (d + 1))).bind fun m => some (bits .and .u32 (shr .u32 s (IntKind.u64.wrap a)) m) else none else
  if nm.toList = [105, 110, 115] then (ferryref09_mask.f (wrap64 (wrap64 (d + 1) - a))).bind fun m => if 0 ≤ IntKind.u64.wrap a then some (bits .or .u32 (bits .andNot .u32 t (shl .u32 m (IntKind.u64.wrap a))) (bits .and .u32 (shl .u32 s (IntKind.u64.wrap a)) (shl .u32 m (IntKind.u64.wrap a)))) else none else
  if nm.toList = [119, 115, 98, 104] then some (bits .or .u32 (bits .and .u32 t 4278255360 / 256) (bits .and .u32 t 16711935 * 256 % 4294967296)) else
  if nm.toList = [115, 101, 98] then ferryref01_Sext.f k t 8 else
  if nm.toList = [115, 101, 104] then ferryref01_Sext.f k t 16 else
  if nm.toList = [99, 108, 122] then ferryref09_lead.f k s 0 else
  if nm.toList = [99, 108, 111] then ferryref09_lead.f k s 1 else
  some (s * t % 4294967296)
set_option maxHeartbeats 8000000 in
set_option maxRecDepth 100000 in
theorem ferryref09_fields.calls (k : Nat) (nm : ByteArray) (x1 x2 d a i s t : Int) (r : Int) (w : World) (h : ferryref09_fields.f k nm x1 x2 d a i s t = some r) :
    Calls Tryd.prog 45 #[.agg #[.string nm, .int .i64 x1, .int .i64 x2, .int .i64 d, .int .i64 a, .int .u32 i], .int .u32 s, .int .u32 t] w fun e w' => e = .returned (.int .u32 r) ∧ Below w.heap.size w w' := by
  unfold ferryref09_fields.f at h
  have T1 := Lib.hid (InsW.first nm x1 x2 d a i w)
  by_cases g : nm.toList = [101, 120, 116]
  · rw [if_pos g] at h
    have e0 : (nm.toList == [101, 120, 116]) = true := beq_iff_eq.2 g
    clear g
    by_cases h0 : 0 ≤ IntKind.u64.wrap a
    · rw [if_pos h0] at h
      obtain ⟨m, hm, h⟩ := Option.bind_eq_some_iff.1 h
      obtain rfl := Option.some.inj h
      have MK := Lib.hid (fun w => ferryref09_mask.calls _ m w hm)
      clear h hm
      go_enter Tryd.func45, Tryd.ntmps45
      go_wp2
      repeat (go_quiet (first | (go_at_call 65; refine (MK.out _).mono ?_; rintro e w' ⟨rfl, ⟨nd, rfl⟩⟩; exact ⟨rfl, _, World.drewN_drewN _ _ _⟩)); try go_wp2)
      go_ret
      exact ⟨rfl, T1.out.bel.trans ⟨rfl, rfl, rfl, Nat.le_refl _, fun _ _ => rfl⟩⟩
    rw [if_neg h0] at h
    cases h
  rw [if_neg g] at h
  have e0 : (nm.toList == [101, 120, 116]) = false := beq_eq_false_iff_ne.2 g
  clear g
  by_cases g : nm.toList = [105, 110, 115]
  · rw [if_pos g] at h
    have e1 : (nm.toList == [105, 110, 115]) = true := beq_iff_eq.2 g
    clear g
    obtain ⟨m, hm, h⟩ := Option.bind_eq_some_iff.1 h
    by_cases h0 : 0 ≤ IntKind.u64.wrap a
    · rw [if_pos h0] at h
      obtain rfl := Option.some.inj h
      have MK := Lib.hid (fun w => ferryref09_mask.calls _ m w hm)
      clear h hm
      go_enter Tryd.func45, Tryd.ntmps45
      go_wp2
      repeat (go_quiet (first | (go_at_call 65; refine (MK.out _).mono ?_; rintro e w' ⟨rfl, ⟨nd, rfl⟩⟩; exact ⟨rfl, _, World.drewN_drewN _ _ _⟩)); try go_wp2)
      go_ret
      exact ⟨rfl, T1.out.bel.trans ⟨rfl, rfl, rfl, Nat.le_refl _, fun _ _ => rfl⟩⟩
    rw [if_neg h0] at h
    cases h
  rw [if_neg g] at h
  have e1 : (nm.toList == [105, 110, 115]) = false := beq_eq_false_iff_ne.2 g
  clear g
  by_cases g : nm.toList = [119, 115, 98, 104]
  · rw [if_pos g] at h
    have e2 : (nm.toList == [119, 115, 98, 104]) = true := beq_iff_eq.2 g
    clear g
    obtain rfl := Option.some.inj h
    clear h
    go_enter Tryd.func45, Tryd.ntmps45
    go_wp2
    go_ret
    exact ⟨rfl, T1.out.bel⟩
  rw [if_neg g] at h
  have e2 : (nm.toList == [119, 115, 98, 104]) = false := beq_eq_false_iff_ne.2 g
  clear g
  by_cases g : nm.toList = [115, 101, 98]
  · rw [if_pos g] at h
    have e3 : (nm.toList == [115, 101, 98]) = true := beq_iff_eq.2 g
    clear g
    have SX := Lib.hid (fun w => ferryref01_Sext.calls k _ _ r w h)
    clear h
    go_enter Tryd.func45, Tryd.ntmps45
    go_wp2_with (go_at_call 23; refine (SX.out _).mono ?_; rintro e w' ⟨rfl, ⟨nd, rfl⟩⟩)
    go_ret
    exact ⟨rfl, T1.out.bel.trans ⟨rfl, rfl, rfl, Nat.le_refl _, fun _ _ => rfl⟩⟩
  rw [if_neg g] at h
  have e3 : (nm.toList == [115, 101, 98]) = false := beq_eq_false_iff_ne.2 g
  clear g
  by_cases g : nm.toList = [115, 101, 104]
  · rw [if_pos g] at h
    have e4 : (nm.toList == [115, 101, 104]) = true := beq_iff_eq.2 g
    clear g
    have SX := Lib.hid (fun w => ferryref01_Sext.calls k _ _ r w h)
    clear h
    go_enter Tryd.func45, Tryd.ntmps45
    go_wp2_with (go_at_call 23; refine (SX.out _).mono ?_; rintro e w' ⟨rfl, ⟨nd, rfl⟩⟩)
    go_ret
    exact ⟨rfl, T1.out.bel.trans ⟨rfl, rfl, rfl, Nat.le_refl _, fun _ _ => rfl⟩⟩
  rw [if_neg g] at h
  have e4 : (nm.toList == [115, 101, 104]) = false := beq_eq_false_iff_ne.2 g
  clear g
  by_cases g : nm.toList = [99, 108, 122]
  · rw [if_pos g] at h
    have e5 : (nm.toList == [99, 108, 122]) = true := beq_iff_eq.2 g
    clear g
    have LD := Lib.hid (fun w => ferryref09_lead.calls k _ _ r w h)
    clear h
    go_enter Tryd.func45, Tryd.ntmps45
    go_wp2_with (go_at_call 66; refine (LD.out _).mono ?_; rintro e w' ⟨rfl, ⟨nd, rfl⟩⟩)
    go_ret
    exact ⟨rfl, T1.out.bel.trans ⟨rfl, rfl, rfl, Nat.le_refl _, fun _ _ => rfl⟩⟩
  rw [if_neg g] at h
  have e5 : (nm.toList == [99, 108, 122]) = false := beq_eq_false_iff_ne.2 g
  clear g
  by_cases g : nm.toList = [99, 108, 111]
  · rw [if_pos g] at h
    have e6 : (nm.toList == [99, 108, 111]) = true := beq_iff_eq.2 g
    clear g
    have LD := Lib.hid (fun w => ferryref09_lead.calls k _ _ r w h)
    clear h
    go_enter Tryd.func45, Tryd.ntmps45
    go_wp2_with (go_at_call 66; refine (LD.out _).mono ?_; rintro e w' ⟨rfl, ⟨nd, rfl⟩⟩)
    go_ret
    exact ⟨rfl, T1.out.bel.trans ⟨rfl, rfl, rfl, Nat.le_refl _, fun _ _ => rfl⟩⟩
  rw [if_neg g] at h
  have e6 : (nm.toList == [99, 108, 111]) = false := beq_eq_false_iff_ne.2 g
  clear g
  obtain rfl := Option.some.inj h
  clear h
  go_enter Tryd.func45, Tryd.ntmps45
  go_wp2
  go_ret
  exact ⟨rfl, T1.out.bel⟩
-- HAND fn=ferry/ferryref09.shifts ; rounds=1 ; making=1 ; laid=0
def ferryref09_shifts.f (k : Nat) (nm : ByteArray) (x1 x2 d a i s t : Int) : Option Int :=
  if nm.toList = [115, 108, 108] then if 0 ≤ (IntKind.u64.wrap a) then some (shl .u32 t (IntKind.u64.wrap a)) else none else
  if nm.toList = [115, 114, 108] then if 0 ≤ (IntKind.u64.wrap a) then some (shr .u32 t (IntKind.u64.wrap a)) else none else
  if nm.toList = [115, 114, 97] then ferryref09_right.f t (IntKind.u64.wrap a) else
  if nm.toList = [115, 108, 108, 118] then if 0 ≤ (IntKind.u64.wrap (Int.tmod s 32)) then some (shl .u32 t (IntKind.u64.wrap (Int.tmod s 32))) else none else
  if nm.toList = [115, 114, 108, 118] then if 0 ≤ (IntKind.u64.wrap (Int.tmod s 32)) then some (shr .u32 t (IntKind.u64.wrap (Int.tmod s 32))) else none else
  if nm.toList = [115, 114, 97, 118] then ferryref09_right.f t (IntKind.u64.wrap (Int.tmod s 32)) else
  if nm.toList = [114, 111, 116, 114] then ferryref01_Rot.f t a else
  if nm.toList = [114, 111, 116, 114, 118] then ferryref01_Rot.f t (wrap64 (IntKind.u64.wrap (Int.tmod s 32))) else
  ferryref09_fields.f k nm x1 x2 d a i s t
set_option maxHeartbeats 8000000 in
set_option maxRecDepth 100000 in
theorem ferryref09_shifts.calls (k : Nat) (nm : ByteArray) (x1 x2 d a i s t : Int) (r : Int) (w : World) (h : ferryref09_shifts.f k nm x1 x2 d a i s t = some r) :
    Calls Tryd.prog 27 #[.agg #[.string nm, .int .i64 x1, .int .i64 x2, .int .i64 d, .int .i64 a, .int .u32 i], .int .u32 s, .int .u32 t] w fun e w' => e = .returned (.int .u32 r) ∧ Below w.heap.size w w' := by
  unfold ferryref09_shifts.f at h
  have T1 := Lib.hid (InsW.first nm x1 x2 d a i w)
  by_cases g : nm.toList = [115, 108, 108]
  · rw [if_pos g] at h
    have e0 : (nm.toList == [115, 108, 108]) = true := beq_iff_eq.2 g
    clear g
    by_cases h0 : 0 ≤ (IntKind.u64.wrap a)
    · rw [if_pos h0] at h
      obtain rfl := Option.some.inj h
      clear h
      go_enter Tryd.func27, Tryd.ntmps27
      go_wp2
      go_ret
      exact ⟨rfl, T1.out.bel⟩
    rw [if_neg h0] at h
    cases h
  rw [if_neg g] at h
  have e0 : (nm.toList == [115, 108, 108]) = false := beq_eq_false_iff_ne.2 g
  clear g
  by_cases g : nm.toList = [115, 114, 108]
  · rw [if_pos g] at h
    have e1 : (nm.toList == [115, 114, 108]) = true := beq_iff_eq.2 g
    clear g
    by_cases h0 : 0 ≤ (IntKind.u64.wrap a)
    · rw [if_pos h0] at h
      obtain rfl := Option.some.inj h
      clear h
      go_enter Tryd.func27, Tryd.ntmps27
      go_wp2
      go_ret
      exact ⟨rfl, T1.out.bel⟩
    rw [if_neg h0] at h
    cases h
  rw [if_neg g] at h
  have e1 : (nm.toList == [115, 114, 108]) = false := beq_eq_false_iff_ne.2 g
  clear g
  by_cases g : nm.toList = [115, 114, 97]
  · rw [if_pos g] at h
    have e2 : (nm.toList == [115, 114, 97]) = true := beq_iff_eq.2 g
    clear g
    have RT := Lib.hid (fun w => ferryref09_right.calls _ _ r w h)
    clear h
    go_enter Tryd.func27, Tryd.ntmps27
    go_wp2_with (go_at_call 43; refine (RT.out _).mono ?_; rintro e w' ⟨rfl, ⟨nd, rfl⟩⟩)
    go_ret
    exact ⟨rfl, T1.out.bel.trans ⟨rfl, rfl, rfl, Nat.le_refl _, fun _ _ => rfl⟩⟩
  rw [if_neg g] at h
  have e2 : (nm.toList == [115, 114, 97]) = false := beq_eq_false_iff_ne.2 g
  clear g
  by_cases g : nm.toList = [115, 108, 108, 118]
  · rw [if_pos g] at h
    have e3 : (nm.toList == [115, 108, 108, 118]) = true := beq_iff_eq.2 g
    clear g
    by_cases h0 : 0 ≤ (IntKind.u64.wrap (Int.tmod s 32))
    · rw [if_pos h0] at h
      obtain rfl := Option.some.inj h
      clear h
      go_enter Tryd.func27, Tryd.ntmps27
      go_wp2
      go_ret
      exact ⟨rfl, T1.out.bel⟩
    rw [if_neg h0] at h
    cases h
  rw [if_neg g] at h
  have e3 : (nm.toList == [115, 108, 108, 118]) = false := beq_eq_false_iff_ne.2 g
  clear g
  by_cases g : nm.toList = [115, 114, 108, 118]
  · rw [if_pos g] at h
    have e4 : (nm.toList == [115, 114, 108, 118]) = true := beq_iff_eq.2 g
    clear g
    by_cases h0 : 0 ≤ (IntKind.u64.wrap (Int.tmod s 32))
    · rw [if_pos h0] at h
      obtain rfl := Option.some.inj h
      clear h
      go_enter Tryd.func27, Tryd.ntmps27
      go_wp2
      go_ret
      exact ⟨rfl, T1.out.bel⟩
    rw [if_neg h0] at h
    cases h
  rw [if_neg g] at h
  have e4 : (nm.toList == [115, 114, 108, 118]) = false := beq_eq_false_iff_ne.2 g
  clear g
  by_cases g : nm.toList = [115, 114, 97, 118]
  · rw [if_pos g] at h
    have e5 : (nm.toList == [115, 114, 97, 118]) = true := beq_iff_eq.2 g
    clear g
    have RT := Lib.hid (fun w => ferryref09_right.calls _ _ r w h)
    clear h
    go_enter Tryd.func27, Tryd.ntmps27
    go_wp2_with (go_at_call 43; refine (RT.out _).mono ?_; rintro e w' ⟨rfl, ⟨nd, rfl⟩⟩)
    go_ret
    exact ⟨rfl, T1.out.bel.trans ⟨rfl, rfl, rfl, Nat.le_refl _, fun _ _ => rfl⟩⟩
  rw [if_neg g] at h
  have e5 : (nm.toList == [115, 114, 97, 118]) = false := beq_eq_false_iff_ne.2 g
  clear g
  by_cases g : nm.toList = [114, 111, 116, 114]
  · rw [if_pos g] at h
    have e6 : (nm.toList == [114, 111, 116, 114]) = true := beq_iff_eq.2 g
    clear g
    have RO := Lib.hid (fun w => ferryref01_Rot.calls _ _ r w h)
    clear h
    go_enter Tryd.func27, Tryd.ntmps27
    go_wp2_with (go_at_call 44; refine (RO.out _).mono ?_; rintro e w' ⟨rfl, ⟨nd, rfl⟩⟩)
    go_ret
    exact ⟨rfl, T1.out.bel.trans ⟨rfl, rfl, rfl, Nat.le_refl _, fun _ _ => rfl⟩⟩
  rw [if_neg g] at h
  have e6 : (nm.toList == [114, 111, 116, 114]) = false := beq_eq_false_iff_ne.2 g
  clear g
  by_cases g : nm.toList = [114, 111, 116, 114, 118]
  · rw [if_pos g] at h
    have e7 : (nm.toList == [114, 111, 116, 114, 118]) = true := beq_iff_eq.2 g
    clear g
    have RO := Lib.hid (fun w => ferryref01_Rot.calls _ _ r w h)
    clear h
    go_enter Tryd.func27, Tryd.ntmps27
    go_wp2_with (go_at_call 44; refine (RO.out _).mono ?_; rintro e w' ⟨rfl, ⟨nd, rfl⟩⟩)
    go_ret
    exact ⟨rfl, T1.out.bel.trans ⟨rfl, rfl, rfl, Nat.le_refl _, fun _ _ => rfl⟩⟩
  rw [if_neg g] at h
  have e7 : (nm.toList == [114, 111, 116, 114, 118]) = false := beq_eq_false_iff_ne.2 g
  clear g
  have FD := Lib.hid (fun w => ferryref09_fields.calls k nm x1 x2 d a i s t r w h)
  clear h
  go_enter Tryd.func27, Tryd.ntmps27
  go_wp2_with (go_at_call 45; (with_reducible refine (FD.out _).mono ?_); rintro e w' ⟨rfl, hb⟩; have D := Lib.hid (T1.out.step hb); clear hb)
  go_ret
  exact ⟨rfl, D.out.bel⟩
-- HAND fn=ferry/ferryref09.Do ; rounds=1 ; making=1 ; laid=0
def ferryref09_Do.f (k : Nat) (nm : ByteArray) (x1 x2 d a i s t : Int) : Option (Int × Bool) := (ferryref07_Encode.f k nm x1 x2 d a i).bind fun q => if q.2 = true then (ferryref09_Known.f nm).bind fun y => if y = true then (ferryref01_Sext.f k i 16).bind fun m =>
  if nm.toList = [97, 100, 100] then ferryref09_over.f s t false else
  if nm.toList = [115, 117, 98] then ferryref09_over.f s t true else
  if nm.toList = [97, 100, 100, 105] then ferryref09_over.f s m false else
  if nm.toList = [97, 100, 100, 117] then some ((s + t) % 4294967296, true) else
  if nm.toList = [115, 117, 98, 117] then some ((s - t) % 4294967296, true) else
  if nm.toList = [97, 100, 100, 105, 117] then some ((s + m) % 4294967296, true) else
  if nm.toList = [97, 110, 100] then some (bits .and .u32 s t, true) else
  if nm.toList = [111, 114] then some (bits .or .u32 s t, true) else
  if nm.toList = [120, 111, 114] then some (bits .xor .u32 s t, true) else
  if nm.toList = [110, 111, 114] then some ((4294967295 - bits .or .u32 s t) % 4294967296, true) else
  if nm.toList = [97, 110, 100, 105] then some (bits .and .u32 s i, true) else
  if nm.toList = [111, 114, 105] then some (bits .or .u32 s i, true) else
  if nm.toList = [120, 111, 114, 105] then some (bits .xor .u32 s i, true) else
  if nm.toList = [115, 108, 116] then (ferryref09_less.f s t).bind fun q => (ferryref09_bit.f q).map fun v => (v, true) else
  if nm.toList = [115, 108, 116, 117] then (ferryref09_bit.f (decide (s < t))).map fun v => (v, true) else
  if nm.toList = [115, 108, 116, 105] then (ferryref09_less.f s m).bind fun q => (ferryref09_bit.f q).map fun v => (v, true) else
  if nm.toList = [115, 108, 116, 105, 117] then (ferryref09_bit.f (decide (s < m))).map fun v => (v, true) else
  if nm.toList = [108, 117, 105] then some (i * 65536 % 4294967296, true) else
  (ferryref09_shifts.f k nm x1 x2 d a i s t).map fun v => (v, true)
  else some (0, false) else some (0, false)
set_option maxHeartbeats 8000000 in
set_option maxRecDepth 100000 in
theorem ferryref09_Do.calls (k : Nat) (nm : ByteArray) (x1 x2 d a i s t : Int) (r1 : Int) (r2 : Bool) (w : World) (h : ferryref09_Do.f k nm x1 x2 d a i s t = some (r1, r2)) :
    Calls Tryd.prog 11 #[.agg #[.string nm, .int .i64 x1, .int .i64 x2, .int .i64 d, .int .i64 a, .int .u32 i], .int .u32 s, .int .u32 t] w fun e w' => e = .returned (.tuple #[.int .u32 r1, .bool r2]) ∧ Below w.heap.size w w' := by
  unfold ferryref09_Do.f at h
  have T1 := Lib.hid (InsW.first nm x1 x2 d a i w)
  have D0 := T1
  clear T1
  have hu := Tryd.underlying29
  obtain ⟨⟨q, can⟩, he, h⟩ := Option.bind_eq_some_iff.1 h
  dsimp only at h
  have EN := Lib.hid (fun w => ferryref07_Encode.calls k nm x1 x2 d a i _ _ w he)
  clear he
  cases can
  · rw [if_neg (by decide)] at h
    obtain ⟨rfl, rfl⟩ := Prod.mk.inj (Option.some.inj h)
    clear h
    go_enter Tryd.func11, Tryd.ntmps11
    go_wp2_with (go_at_call 22; (with_reducible refine (EN.out _).mono ?_); rintro ex w1 ⟨rfl, hb⟩; have D1 := Lib.hid (D0.out.step hb); clear hb; have c := D1.out.cells; obtain ⟨c0, c1, c2, c3, c4, c5⟩ := c)
    go_ret2
    exact ⟨rfl, D1.out.bel⟩
  rw [if_pos rfl] at h
  obtain ⟨y, hy, h⟩ := Option.bind_eq_some_iff.1 h
  have KN := Lib.hid (fun w => ferryref09_Known.calls nm y w hy)
  clear hy
  cases y
  · rw [if_neg (by decide)] at h
    obtain ⟨rfl, rfl⟩ := Prod.mk.inj (Option.some.inj h)
    clear h
    go_enter Tryd.func11, Tryd.ntmps11
    go_wp2_with (first | (go_at_call 22; (with_reducible refine (EN.out _).mono ?_); rintro ex w1 ⟨rfl, hb⟩; have D1 := Lib.hid (D0.out.step hb); clear hb; have c := D1.out.cells; obtain ⟨c0, c1, c2, c3, c4, c5⟩ := c) | (go_at_call 13; (with_reducible refine (KN.out _).mono ?_); rintro ex w2 ⟨rfl, hb⟩; replace hb := Drawn0.below hb; clear c0 c1 c2 c3 c4 c5; have D2 := Lib.hid (D1.out.step hb); clear hb; have c := D2.out.cells; obtain ⟨c0, c1, c2, c3, c4, c5⟩ := c))
    go_ret2
    exact ⟨rfl, D2.out.bel⟩
  rw [if_pos rfl] at h
  obtain ⟨m, hm, h⟩ := Option.bind_eq_some_iff.1 h
  have SX := Lib.hid (fun w => ferryref01_Sext.calls k i 16 m w hm)
  clear hm
  by_cases g : nm.toList = [97, 100, 100]
  · rw [if_pos g] at h
    have e0 : (nm.toList == [97, 100, 100]) = true := beq_iff_eq.2 g
    clear g
    have OV := Lib.hid (fun w => ferryref09_over.calls _ _ _ r1 r2 w h)
    clear h
    go_enter Tryd.func11, Tryd.ntmps11
    go_wp2_with (first | (go_at_call 22; (with_reducible refine (EN.out _).mono ?_); rintro ex w1 ⟨rfl, hb⟩; have D1 := Lib.hid (D0.out.step hb); clear hb; have c := D1.out.cells; obtain ⟨c0, c1, c2, c3, c4, c5⟩ := c) | (go_at_call 13; (with_reducible refine (KN.out _).mono ?_); rintro ex w2 ⟨rfl, hb⟩; replace hb := Drawn0.below hb; clear c0 c1 c2 c3 c4 c5; have D2 := Lib.hid (D1.out.step hb); clear hb; have c := D2.out.cells; obtain ⟨c0, c1, c2, c3, c4, c5⟩ := c) | (go_at_call 23; (with_reducible refine (SX.out _).mono ?_); rintro ex w3 ⟨rfl, hb⟩; replace hb := Drawn0.below hb; clear c0 c1 c2 c3 c4 c5; have D3 := Lib.hid (D2.out.step hb); clear hb; have c := D3.out.cells; obtain ⟨c0, c1, c2, c3, c4, c5⟩ := c) | (go_at_call 24; (with_reducible refine (OV.out _).mono ?_); rintro ex w4 ⟨rfl, hb⟩; replace hb := Drawn0.below hb; clear c0 c1 c2 c3 c4 c5; have D4 := Lib.hid (D3.out.step hb); clear hb; have c := D4.out.cells; obtain ⟨c0, c1, c2, c3, c4, c5⟩ := c))
    go_ret2
    exact ⟨rfl, D4.out.bel⟩
  rw [if_neg g] at h
  have e0 : (nm.toList == [97, 100, 100]) = false := beq_eq_false_iff_ne.2 g
  clear g
  by_cases g : nm.toList = [115, 117, 98]
  · rw [if_pos g] at h
    have e1 : (nm.toList == [115, 117, 98]) = true := beq_iff_eq.2 g
    clear g
    have OV := Lib.hid (fun w => ferryref09_over.calls _ _ _ r1 r2 w h)
    clear h
    go_enter Tryd.func11, Tryd.ntmps11
    go_wp2_with (first | (go_at_call 22; (with_reducible refine (EN.out _).mono ?_); rintro ex w1 ⟨rfl, hb⟩; have D1 := Lib.hid (D0.out.step hb); clear hb; have c := D1.out.cells; obtain ⟨c0, c1, c2, c3, c4, c5⟩ := c) | (go_at_call 13; (with_reducible refine (KN.out _).mono ?_); rintro ex w2 ⟨rfl, hb⟩; replace hb := Drawn0.below hb; clear c0 c1 c2 c3 c4 c5; have D2 := Lib.hid (D1.out.step hb); clear hb; have c := D2.out.cells; obtain ⟨c0, c1, c2, c3, c4, c5⟩ := c) | (go_at_call 23; (with_reducible refine (SX.out _).mono ?_); rintro ex w3 ⟨rfl, hb⟩; replace hb := Drawn0.below hb; clear c0 c1 c2 c3 c4 c5; have D3 := Lib.hid (D2.out.step hb); clear hb; have c := D3.out.cells; obtain ⟨c0, c1, c2, c3, c4, c5⟩ := c) | (go_at_call 24; (with_reducible refine (OV.out _).mono ?_); rintro ex w4 ⟨rfl, hb⟩; replace hb := Drawn0.below hb; clear c0 c1 c2 c3 c4 c5; have D4 := Lib.hid (D3.out.step hb); clear hb; have c := D4.out.cells; obtain ⟨c0, c1, c2, c3, c4, c5⟩ := c))
    go_ret2
    exact ⟨rfl, D4.out.bel⟩
  rw [if_neg g] at h
  have e1 : (nm.toList == [115, 117, 98]) = false := beq_eq_false_iff_ne.2 g
  clear g
  by_cases g : nm.toList = [97, 100, 100, 105]
  · rw [if_pos g] at h
    have e2 : (nm.toList == [97, 100, 100, 105]) = true := beq_iff_eq.2 g
    clear g
    have OV := Lib.hid (fun w => ferryref09_over.calls _ _ _ r1 r2 w h)
    clear h
    go_enter Tryd.func11, Tryd.ntmps11
    go_wp2_with (first | (go_at_call 22; (with_reducible refine (EN.out _).mono ?_); rintro ex w1 ⟨rfl, hb⟩; have D1 := Lib.hid (D0.out.step hb); clear hb; have c := D1.out.cells; obtain ⟨c0, c1, c2, c3, c4, c5⟩ := c) | (go_at_call 13; (with_reducible refine (KN.out _).mono ?_); rintro ex w2 ⟨rfl, hb⟩; replace hb := Drawn0.below hb; clear c0 c1 c2 c3 c4 c5; have D2 := Lib.hid (D1.out.step hb); clear hb; have c := D2.out.cells; obtain ⟨c0, c1, c2, c3, c4, c5⟩ := c) | (go_at_call 23; (with_reducible refine (SX.out _).mono ?_); rintro ex w3 ⟨rfl, hb⟩; replace hb := Drawn0.below hb; clear c0 c1 c2 c3 c4 c5; have D3 := Lib.hid (D2.out.step hb); clear hb; have c := D3.out.cells; obtain ⟨c0, c1, c2, c3, c4, c5⟩ := c) | (go_at_call 24; (with_reducible refine (OV.out _).mono ?_); rintro ex w4 ⟨rfl, hb⟩; replace hb := Drawn0.below hb; clear c0 c1 c2 c3 c4 c5; have D4 := Lib.hid (D3.out.step hb); clear hb; have c := D4.out.cells; obtain ⟨c0, c1, c2, c3, c4, c5⟩ := c))
    go_ret2
    exact ⟨rfl, D4.out.bel⟩
  rw [if_neg g] at h
  have e2 : (nm.toList == [97, 100, 100, 105]) = false := beq_eq_false_iff_ne.2 g
  clear g
  by_cases g : nm.toList = [97, 100, 100, 117]
  · rw [if_pos g] at h
    have e3 : (nm.toList == [97, 100, 100, 117]) = true := beq_iff_eq.2 g
    clear g
    obtain ⟨rfl, rfl⟩ := Prod.mk.inj (Option.some.inj h)
    clear h
    go_enter Tryd.func11, Tryd.ntmps11
    go_wp2_with (first | (go_at_call 22; (with_reducible refine (EN.out _).mono ?_); rintro ex w1 ⟨rfl, hb⟩; have D1 := Lib.hid (D0.out.step hb); clear hb; have c := D1.out.cells; obtain ⟨c0, c1, c2, c3, c4, c5⟩ := c) | (go_at_call 13; (with_reducible refine (KN.out _).mono ?_); rintro ex w2 ⟨rfl, hb⟩; replace hb := Drawn0.below hb; clear c0 c1 c2 c3 c4 c5; have D2 := Lib.hid (D1.out.step hb); clear hb; have c := D2.out.cells; obtain ⟨c0, c1, c2, c3, c4, c5⟩ := c) | (go_at_call 23; (with_reducible refine (SX.out _).mono ?_); rintro ex w3 ⟨rfl, hb⟩; replace hb := Drawn0.below hb; clear c0 c1 c2 c3 c4 c5; have D3 := Lib.hid (D2.out.step hb); clear hb; have c := D3.out.cells; obtain ⟨c0, c1, c2, c3, c4, c5⟩ := c))
    go_ret2
    exact ⟨rfl, D3.out.bel⟩
  rw [if_neg g] at h
  have e3 : (nm.toList == [97, 100, 100, 117]) = false := beq_eq_false_iff_ne.2 g
  clear g
  by_cases g : nm.toList = [115, 117, 98, 117]
  · rw [if_pos g] at h
    have e4 : (nm.toList == [115, 117, 98, 117]) = true := beq_iff_eq.2 g
    clear g
    obtain ⟨rfl, rfl⟩ := Prod.mk.inj (Option.some.inj h)
    clear h
    go_enter Tryd.func11, Tryd.ntmps11
    go_wp2_with (first | (go_at_call 22; (with_reducible refine (EN.out _).mono ?_); rintro ex w1 ⟨rfl, hb⟩; have D1 := Lib.hid (D0.out.step hb); clear hb; have c := D1.out.cells; obtain ⟨c0, c1, c2, c3, c4, c5⟩ := c) | (go_at_call 13; (with_reducible refine (KN.out _).mono ?_); rintro ex w2 ⟨rfl, hb⟩; replace hb := Drawn0.below hb; clear c0 c1 c2 c3 c4 c5; have D2 := Lib.hid (D1.out.step hb); clear hb; have c := D2.out.cells; obtain ⟨c0, c1, c2, c3, c4, c5⟩ := c) | (go_at_call 23; (with_reducible refine (SX.out _).mono ?_); rintro ex w3 ⟨rfl, hb⟩; replace hb := Drawn0.below hb; clear c0 c1 c2 c3 c4 c5; have D3 := Lib.hid (D2.out.step hb); clear hb; have c := D3.out.cells; obtain ⟨c0, c1, c2, c3, c4, c5⟩ := c))
    go_ret2
    exact ⟨rfl, D3.out.bel⟩
  rw [if_neg g] at h
  have e4 : (nm.toList == [115, 117, 98, 117]) = false := beq_eq_false_iff_ne.2 g
  clear g
  by_cases g : nm.toList = [97, 100, 100, 105, 117]
  · rw [if_pos g] at h
    have e5 : (nm.toList == [97, 100, 100, 105, 117]) = true := beq_iff_eq.2 g
    clear g
    obtain ⟨rfl, rfl⟩ := Prod.mk.inj (Option.some.inj h)
    clear h
    go_enter Tryd.func11, Tryd.ntmps11
    go_wp2_with (first | (go_at_call 22; (with_reducible refine (EN.out _).mono ?_); rintro ex w1 ⟨rfl, hb⟩; have D1 := Lib.hid (D0.out.step hb); clear hb; have c := D1.out.cells; obtain ⟨c0, c1, c2, c3, c4, c5⟩ := c) | (go_at_call 13; (with_reducible refine (KN.out _).mono ?_); rintro ex w2 ⟨rfl, hb⟩; replace hb := Drawn0.below hb; clear c0 c1 c2 c3 c4 c5; have D2 := Lib.hid (D1.out.step hb); clear hb; have c := D2.out.cells; obtain ⟨c0, c1, c2, c3, c4, c5⟩ := c) | (go_at_call 23; (with_reducible refine (SX.out _).mono ?_); rintro ex w3 ⟨rfl, hb⟩; replace hb := Drawn0.below hb; clear c0 c1 c2 c3 c4 c5; have D3 := Lib.hid (D2.out.step hb); clear hb; have c := D3.out.cells; obtain ⟨c0, c1, c2, c3, c4, c5⟩ := c))
    go_ret2
    exact ⟨rfl, D3.out.bel⟩
  rw [if_neg g] at h
  have e5 : (nm.toList == [97, 100, 100, 105, 117]) = false := beq_eq_false_iff_ne.2 g
  clear g
  by_cases g : nm.toList = [97, 110, 100]
  · rw [if_pos g] at h
    have e6 : (nm.toList == [97, 110, 100]) = true := beq_iff_eq.2 g
    clear g
    obtain ⟨rfl, rfl⟩ := Prod.mk.inj (Option.some.inj h)
    clear h
    go_enter Tryd.func11, Tryd.ntmps11
    go_wp2_with (first | (go_at_call 22; (with_reducible refine (EN.out _).mono ?_); rintro ex w1 ⟨rfl, hb⟩; have D1 := Lib.hid (D0.out.step hb); clear hb; have c := D1.out.cells; obtain ⟨c0, c1, c2, c3, c4, c5⟩ := c) | (go_at_call 13; (with_reducible refine (KN.out _).mono ?_); rintro ex w2 ⟨rfl, hb⟩; replace hb := Drawn0.below hb; clear c0 c1 c2 c3 c4 c5; have D2 := Lib.hid (D1.out.step hb); clear hb; have c := D2.out.cells; obtain ⟨c0, c1, c2, c3, c4, c5⟩ := c) | (go_at_call 23; (with_reducible refine (SX.out _).mono ?_); rintro ex w3 ⟨rfl, hb⟩; replace hb := Drawn0.below hb; clear c0 c1 c2 c3 c4 c5; have D3 := Lib.hid (D2.out.step hb); clear hb; have c := D3.out.cells; obtain ⟨c0, c1, c2, c3, c4, c5⟩ := c))
    go_ret2
    exact ⟨rfl, D3.out.bel⟩
  rw [if_neg g] at h
  have e6 : (nm.toList == [97, 110, 100]) = false := beq_eq_false_iff_ne.2 g
  clear g
  by_cases g : nm.toList = [111, 114]
  · rw [if_pos g] at h
    have e7 : (nm.toList == [111, 114]) = true := beq_iff_eq.2 g
    clear g
    obtain ⟨rfl, rfl⟩ := Prod.mk.inj (Option.some.inj h)
    clear h
    go_enter Tryd.func11, Tryd.ntmps11
    go_wp2_with (first | (go_at_call 22; (with_reducible refine (EN.out _).mono ?_); rintro ex w1 ⟨rfl, hb⟩; have D1 := Lib.hid (D0.out.step hb); clear hb; have c := D1.out.cells; obtain ⟨c0, c1, c2, c3, c4, c5⟩ := c) | (go_at_call 13; (with_reducible refine (KN.out _).mono ?_); rintro ex w2 ⟨rfl, hb⟩; replace hb := Drawn0.below hb; clear c0 c1 c2 c3 c4 c5; have D2 := Lib.hid (D1.out.step hb); clear hb; have c := D2.out.cells; obtain ⟨c0, c1, c2, c3, c4, c5⟩ := c) | (go_at_call 23; (with_reducible refine (SX.out _).mono ?_); rintro ex w3 ⟨rfl, hb⟩; replace hb := Drawn0.below hb; clear c0 c1 c2 c3 c4 c5; have D3 := Lib.hid (D2.out.step hb); clear hb; have c := D3.out.cells; obtain ⟨c0, c1, c2, c3, c4, c5⟩ := c))
    go_ret2
    exact ⟨rfl, D3.out.bel⟩
  rw [if_neg g] at h
  have e7 : (nm.toList == [111, 114]) = false := beq_eq_false_iff_ne.2 g
  clear g
  by_cases g : nm.toList = [120, 111, 114]
  · rw [if_pos g] at h
    have e8 : (nm.toList == [120, 111, 114]) = true := beq_iff_eq.2 g
    clear g
    obtain ⟨rfl, rfl⟩ := Prod.mk.inj (Option.some.inj h)
    clear h
    go_enter Tryd.func11, Tryd.ntmps11
    go_wp2_with (first | (go_at_call 22; (with_reducible refine (EN.out _).mono ?_); rintro ex w1 ⟨rfl, hb⟩; have D1 := Lib.hid (D0.out.step hb); clear hb; have c := D1.out.cells; obtain ⟨c0, c1, c2, c3, c4, c5⟩ := c) | (go_at_call 13; (with_reducible refine (KN.out _).mono ?_); rintro ex w2 ⟨rfl, hb⟩; replace hb := Drawn0.below hb; clear c0 c1 c2 c3 c4 c5; have D2 := Lib.hid (D1.out.step hb); clear hb; have c := D2.out.cells; obtain ⟨c0, c1, c2, c3, c4, c5⟩ := c) | (go_at_call 23; (with_reducible refine (SX.out _).mono ?_); rintro ex w3 ⟨rfl, hb⟩; replace hb := Drawn0.below hb; clear c0 c1 c2 c3 c4 c5; have D3 := Lib.hid (D2.out.step hb); clear hb; have c := D3.out.cells; obtain ⟨c0, c1, c2, c3, c4, c5⟩ := c))
    go_ret2
    exact ⟨rfl, D3.out.bel⟩
  rw [if_neg g] at h
  have e8 : (nm.toList == [120, 111, 114]) = false := beq_eq_false_iff_ne.2 g
  clear g
  by_cases g : nm.toList = [110, 111, 114]
  · rw [if_pos g] at h
    have e9 : (nm.toList == [110, 111, 114]) = true := beq_iff_eq.2 g
    clear g
    obtain ⟨rfl, rfl⟩ := Prod.mk.inj (Option.some.inj h)
    clear h
    go_enter Tryd.func11, Tryd.ntmps11
    go_wp2_with (first | (go_at_call 22; (with_reducible refine (EN.out _).mono ?_); rintro ex w1 ⟨rfl, hb⟩; have D1 := Lib.hid (D0.out.step hb); clear hb; have c := D1.out.cells; obtain ⟨c0, c1, c2, c3, c4, c5⟩ := c) | (go_at_call 13; (with_reducible refine (KN.out _).mono ?_); rintro ex w2 ⟨rfl, hb⟩; replace hb := Drawn0.below hb; clear c0 c1 c2 c3 c4 c5; have D2 := Lib.hid (D1.out.step hb); clear hb; have c := D2.out.cells; obtain ⟨c0, c1, c2, c3, c4, c5⟩ := c) | (go_at_call 23; (with_reducible refine (SX.out _).mono ?_); rintro ex w3 ⟨rfl, hb⟩; replace hb := Drawn0.below hb; clear c0 c1 c2 c3 c4 c5; have D3 := Lib.hid (D2.out.step hb); clear hb; have c := D3.out.cells; obtain ⟨c0, c1, c2, c3, c4, c5⟩ := c))
    go_ret2
    exact ⟨rfl, D3.out.bel⟩
  rw [if_neg g] at h
  have e9 : (nm.toList == [110, 111, 114]) = false := beq_eq_false_iff_ne.2 g
  clear g
  by_cases g : nm.toList = [97, 110, 100, 105]
  · rw [if_pos g] at h
    have e10 : (nm.toList == [97, 110, 100, 105]) = true := beq_iff_eq.2 g
    clear g
    obtain ⟨rfl, rfl⟩ := Prod.mk.inj (Option.some.inj h)
    clear h
    go_enter Tryd.func11, Tryd.ntmps11
    go_wp2_with (first | (go_at_call 22; (with_reducible refine (EN.out _).mono ?_); rintro ex w1 ⟨rfl, hb⟩; have D1 := Lib.hid (D0.out.step hb); clear hb; have c := D1.out.cells; obtain ⟨c0, c1, c2, c3, c4, c5⟩ := c) | (go_at_call 13; (with_reducible refine (KN.out _).mono ?_); rintro ex w2 ⟨rfl, hb⟩; replace hb := Drawn0.below hb; clear c0 c1 c2 c3 c4 c5; have D2 := Lib.hid (D1.out.step hb); clear hb; have c := D2.out.cells; obtain ⟨c0, c1, c2, c3, c4, c5⟩ := c) | (go_at_call 23; (with_reducible refine (SX.out _).mono ?_); rintro ex w3 ⟨rfl, hb⟩; replace hb := Drawn0.below hb; clear c0 c1 c2 c3 c4 c5; have D3 := Lib.hid (D2.out.step hb); clear hb; have c := D3.out.cells; obtain ⟨c0, c1, c2, c3, c4, c5⟩ := c))
    go_ret2
    exact ⟨rfl, D3.out.bel⟩
  rw [if_neg g] at h
  have e10 : (nm.toList == [97, 110, 100, 105]) = false := beq_eq_false_iff_ne.2 g
  clear g
  by_cases g : nm.toList = [111, 114, 105]
  · rw [if_pos g] at h
    have e11 : (nm.toList == [111, 114, 105]) = true := beq_iff_eq.2 g
    clear g
    obtain ⟨rfl, rfl⟩ := Prod.mk.inj (Option.some.inj h)
    clear h
    go_enter Tryd.func11, Tryd.ntmps11
    go_wp2_with (first | (go_at_call 22; (with_reducible refine (EN.out _).mono ?_); rintro ex w1 ⟨rfl, hb⟩; have D1 := Lib.hid (D0.out.step hb); clear hb; have c := D1.out.cells; obtain ⟨c0, c1, c2, c3, c4, c5⟩ := c) | (go_at_call 13; (with_reducible refine (KN.out _).mono ?_); rintro ex w2 ⟨rfl, hb⟩; replace hb := Drawn0.below hb; clear c0 c1 c2 c3 c4 c5; have D2 := Lib.hid (D1.out.step hb); clear hb; have c := D2.out.cells; obtain ⟨c0, c1, c2, c3, c4, c5⟩ := c) | (go_at_call 23; (with_reducible refine (SX.out _).mono ?_); rintro ex w3 ⟨rfl, hb⟩; replace hb := Drawn0.below hb; clear c0 c1 c2 c3 c4 c5; have D3 := Lib.hid (D2.out.step hb); clear hb; have c := D3.out.cells; obtain ⟨c0, c1, c2, c3, c4, c5⟩ := c))
    go_ret2
    exact ⟨rfl, D3.out.bel⟩
  rw [if_neg g] at h
  have e11 : (nm.toList == [111, 114, 105]) = false := beq_eq_false_iff_ne.2 g
  clear g
  by_cases g : nm.toList = [120, 111, 114, 105]
  · rw [if_pos g] at h
    have e12 : (nm.toList == [120, 111, 114, 105]) = true := beq_iff_eq.2 g
    clear g
    obtain ⟨rfl, rfl⟩ := Prod.mk.inj (Option.some.inj h)
    clear h
    go_enter Tryd.func11, Tryd.ntmps11
    go_wp2_with (first | (go_at_call 22; (with_reducible refine (EN.out _).mono ?_); rintro ex w1 ⟨rfl, hb⟩; have D1 := Lib.hid (D0.out.step hb); clear hb; have c := D1.out.cells; obtain ⟨c0, c1, c2, c3, c4, c5⟩ := c) | (go_at_call 13; (with_reducible refine (KN.out _).mono ?_); rintro ex w2 ⟨rfl, hb⟩; replace hb := Drawn0.below hb; clear c0 c1 c2 c3 c4 c5; have D2 := Lib.hid (D1.out.step hb); clear hb; have c := D2.out.cells; obtain ⟨c0, c1, c2, c3, c4, c5⟩ := c) | (go_at_call 23; (with_reducible refine (SX.out _).mono ?_); rintro ex w3 ⟨rfl, hb⟩; replace hb := Drawn0.below hb; clear c0 c1 c2 c3 c4 c5; have D3 := Lib.hid (D2.out.step hb); clear hb; have c := D3.out.cells; obtain ⟨c0, c1, c2, c3, c4, c5⟩ := c))
    go_ret2
    exact ⟨rfl, D3.out.bel⟩
  rw [if_neg g] at h
  have e12 : (nm.toList == [120, 111, 114, 105]) = false := beq_eq_false_iff_ne.2 g
  clear g
  by_cases g : nm.toList = [115, 108, 116]
  · rw [if_pos g] at h
    have e13 : (nm.toList == [115, 108, 116]) = true := beq_iff_eq.2 g
    clear g
    obtain ⟨z, hz, h⟩ := Option.bind_eq_some_iff.1 h
    obtain ⟨v, hv, h⟩ := Option.map_eq_some_iff.1 h
    obtain ⟨rfl, rfl⟩ := Prod.mk.inj h
    have LS := Lib.hid (fun w => ferryref09_less.calls _ _ z w hz)
    have BT := Lib.hid (fun w => ferryref09_bit.calls z v w hv)
    clear h hz hv
    go_enter Tryd.func11, Tryd.ntmps11
    go_wp2_with (first | (go_at_call 22; (with_reducible refine (EN.out _).mono ?_); rintro ex w1 ⟨rfl, hb⟩; have D1 := Lib.hid (D0.out.step hb); clear hb; have c := D1.out.cells; obtain ⟨c0, c1, c2, c3, c4, c5⟩ := c) | (go_at_call 13; (with_reducible refine (KN.out _).mono ?_); rintro ex w2 ⟨rfl, hb⟩; replace hb := Drawn0.below hb; clear c0 c1 c2 c3 c4 c5; have D2 := Lib.hid (D1.out.step hb); clear hb; have c := D2.out.cells; obtain ⟨c0, c1, c2, c3, c4, c5⟩ := c) | (go_at_call 23; (with_reducible refine (SX.out _).mono ?_); rintro ex w3 ⟨rfl, hb⟩; replace hb := Drawn0.below hb; clear c0 c1 c2 c3 c4 c5; have D3 := Lib.hid (D2.out.step hb); clear hb; have c := D3.out.cells; obtain ⟨c0, c1, c2, c3, c4, c5⟩ := c) | (go_at_call 26; (with_reducible refine (LS.out _).mono ?_); rintro ex w4 ⟨rfl, hb⟩; replace hb := Drawn0.below hb; clear c0 c1 c2 c3 c4 c5; have D4 := Lib.hid (D3.out.step hb); clear hb; have c := D4.out.cells; obtain ⟨c0, c1, c2, c3, c4, c5⟩ := c) | (go_at_call 25; (with_reducible refine (BT.out _).mono ?_); rintro ex w5 ⟨rfl, hb⟩; replace hb := Drawn0.below hb; clear c0 c1 c2 c3 c4 c5; have D5 := Lib.hid (D4.out.step hb); clear hb; have c := D5.out.cells; obtain ⟨c0, c1, c2, c3, c4, c5⟩ := c))
    go_ret2
    exact ⟨rfl, D5.out.bel⟩
  rw [if_neg g] at h
  have e13 : (nm.toList == [115, 108, 116]) = false := beq_eq_false_iff_ne.2 g
  clear g
  by_cases g : nm.toList = [115, 108, 116, 117]
  · rw [if_pos g] at h
    have e14 : (nm.toList == [115, 108, 116, 117]) = true := beq_iff_eq.2 g
    clear g
    obtain ⟨v, hv, h⟩ := Option.map_eq_some_iff.1 h
    obtain ⟨rfl, rfl⟩ := Prod.mk.inj h
    have BT := Lib.hid (fun w => ferryref09_bit.calls _ v w hv)
    clear h hv
    go_enter Tryd.func11, Tryd.ntmps11
    go_wp2_with (first | (go_at_call 22; (with_reducible refine (EN.out _).mono ?_); rintro ex w1 ⟨rfl, hb⟩; have D1 := Lib.hid (D0.out.step hb); clear hb; have c := D1.out.cells; obtain ⟨c0, c1, c2, c3, c4, c5⟩ := c) | (go_at_call 13; (with_reducible refine (KN.out _).mono ?_); rintro ex w2 ⟨rfl, hb⟩; replace hb := Drawn0.below hb; clear c0 c1 c2 c3 c4 c5; have D2 := Lib.hid (D1.out.step hb); clear hb; have c := D2.out.cells; obtain ⟨c0, c1, c2, c3, c4, c5⟩ := c) | (go_at_call 23; (with_reducible refine (SX.out _).mono ?_); rintro ex w3 ⟨rfl, hb⟩; replace hb := Drawn0.below hb; clear c0 c1 c2 c3 c4 c5; have D3 := Lib.hid (D2.out.step hb); clear hb; have c := D3.out.cells; obtain ⟨c0, c1, c2, c3, c4, c5⟩ := c) | (go_at_call 25; (with_reducible refine (BT.out _).mono ?_); rintro ex w4 ⟨rfl, hb⟩; replace hb := Drawn0.below hb; clear c0 c1 c2 c3 c4 c5; have D4 := Lib.hid (D3.out.step hb); clear hb; have c := D4.out.cells; obtain ⟨c0, c1, c2, c3, c4, c5⟩ := c))
    go_ret2
    exact ⟨rfl, D4.out.bel⟩
  rw [if_neg g] at h
  have e14 : (nm.toList == [115, 108, 116, 117]) = false := beq_eq_false_iff_ne.2 g
  clear g
  by_cases g : nm.toList = [115, 108, 116, 105]
  · rw [if_pos g] at h
    have e15 : (nm.toList == [115, 108, 116, 105]) = true := beq_iff_eq.2 g
    clear g
    obtain ⟨z, hz, h⟩ := Option.bind_eq_some_iff.1 h
    obtain ⟨v, hv, h⟩ := Option.map_eq_some_iff.1 h
    obtain ⟨rfl, rfl⟩ := Prod.mk.inj h
    have LS := Lib.hid (fun w => ferryref09_less.calls _ _ z w hz)
    have BT := Lib.hid (fun w => ferryref09_bit.calls z v w hv)
    clear h hz hv
    go_enter Tryd.func11, Tryd.ntmps11
    go_wp2_with (first | (go_at_call 22; (with_reducible refine (EN.out _).mono ?_); rintro ex w1 ⟨rfl, hb⟩; have D1 := Lib.hid (D0.out.step hb); clear hb; have c := D1.out.cells; obtain ⟨c0, c1, c2, c3, c4, c5⟩ := c) | (go_at_call 13; (with_reducible refine (KN.out _).mono ?_); rintro ex w2 ⟨rfl, hb⟩; replace hb := Drawn0.below hb; clear c0 c1 c2 c3 c4 c5; have D2 := Lib.hid (D1.out.step hb); clear hb; have c := D2.out.cells; obtain ⟨c0, c1, c2, c3, c4, c5⟩ := c) | (go_at_call 23; (with_reducible refine (SX.out _).mono ?_); rintro ex w3 ⟨rfl, hb⟩; replace hb := Drawn0.below hb; clear c0 c1 c2 c3 c4 c5; have D3 := Lib.hid (D2.out.step hb); clear hb; have c := D3.out.cells; obtain ⟨c0, c1, c2, c3, c4, c5⟩ := c) | (go_at_call 26; (with_reducible refine (LS.out _).mono ?_); rintro ex w4 ⟨rfl, hb⟩; replace hb := Drawn0.below hb; clear c0 c1 c2 c3 c4 c5; have D4 := Lib.hid (D3.out.step hb); clear hb; have c := D4.out.cells; obtain ⟨c0, c1, c2, c3, c4, c5⟩ := c) | (go_at_call 25; (with_reducible refine (BT.out _).mono ?_); rintro ex w5 ⟨rfl, hb⟩; replace hb := Drawn0.below hb; clear c0 c1 c2 c3 c4 c5; have D5 := Lib.hid (D4.out.step hb); clear hb; have c := D5.out.cells; obtain ⟨c0, c1, c2, c3, c4, c5⟩ := c))
    go_ret2
    exact ⟨rfl, D5.out.bel⟩
  rw [if_neg g] at h
  have e15 : (nm.toList == [115, 108, 116, 105]) = false := beq_eq_false_iff_ne.2 g
  clear g
  by_cases g : nm.toList = [115, 108, 116, 105, 117]
  · rw [if_pos g] at h
    have e16 : (nm.toList == [115, 108, 116, 105, 117]) = true := beq_iff_eq.2 g
    clear g
    obtain ⟨v, hv, h⟩ := Option.map_eq_some_iff.1 h
    obtain ⟨rfl, rfl⟩ := Prod.mk.inj h
    have BT := Lib.hid (fun w => ferryref09_bit.calls _ v w hv)
    clear h hv
    go_enter Tryd.func11, Tryd.ntmps11
    go_wp2_with (first | (go_at_call 22; (with_reducible refine (EN.out _).mono ?_); rintro ex w1 ⟨rfl, hb⟩; have D1 := Lib.hid (D0.out.step hb); clear hb; have c := D1.out.cells; obtain ⟨c0, c1, c2, c3, c4, c5⟩ := c) | (go_at_call 13; (with_reducible refine (KN.out _).mono ?_); rintro ex w2 ⟨rfl, hb⟩; replace hb := Drawn0.below hb; clear c0 c1 c2 c3 c4 c5; have D2 := Lib.hid (D1.out.step hb); clear hb; have c := D2.out.cells; obtain ⟨c0, c1, c2, c3, c4, c5⟩ := c) | (go_at_call 23; (with_reducible refine (SX.out _).mono ?_); rintro ex w3 ⟨rfl, hb⟩; replace hb := Drawn0.below hb; clear c0 c1 c2 c3 c4 c5; have D3 := Lib.hid (D2.out.step hb); clear hb; have c := D3.out.cells; obtain ⟨c0, c1, c2, c3, c4, c5⟩ := c) | (go_at_call 25; (with_reducible refine (BT.out _).mono ?_); rintro ex w4 ⟨rfl, hb⟩; replace hb := Drawn0.below hb; clear c0 c1 c2 c3 c4 c5; have D4 := Lib.hid (D3.out.step hb); clear hb; have c := D4.out.cells; obtain ⟨c0, c1, c2, c3, c4, c5⟩ := c))
    go_ret2
    exact ⟨rfl, D4.out.bel⟩
  rw [if_neg g] at h
  have e16 : (nm.toList == [115, 108, 116, 105, 117]) = false := beq_eq_false_iff_ne.2 g
  clear g
  by_cases g : nm.toList = [108, 117, 105]
  · rw [if_pos g] at h
    have e17 : (nm.toList == [108, 117, 105]) = true := beq_iff_eq.2 g
    clear g
    obtain ⟨rfl, rfl⟩ := Prod.mk.inj (Option.some.inj h)
    clear h
    go_enter Tryd.func11, Tryd.ntmps11
    go_wp2_with (first | (go_at_call 22; (with_reducible refine (EN.out _).mono ?_); rintro ex w1 ⟨rfl, hb⟩; have D1 := Lib.hid (D0.out.step hb); clear hb; have c := D1.out.cells; obtain ⟨c0, c1, c2, c3, c4, c5⟩ := c) | (go_at_call 13; (with_reducible refine (KN.out _).mono ?_); rintro ex w2 ⟨rfl, hb⟩; replace hb := Drawn0.below hb; clear c0 c1 c2 c3 c4 c5; have D2 := Lib.hid (D1.out.step hb); clear hb; have c := D2.out.cells; obtain ⟨c0, c1, c2, c3, c4, c5⟩ := c) | (go_at_call 23; (with_reducible refine (SX.out _).mono ?_); rintro ex w3 ⟨rfl, hb⟩; replace hb := Drawn0.below hb; clear c0 c1 c2 c3 c4 c5; have D3 := Lib.hid (D2.out.step hb); clear hb; have c := D3.out.cells; obtain ⟨c0, c1, c2, c3, c4, c5⟩ := c))
    go_ret2
    exact ⟨rfl, D3.out.bel⟩
  rw [if_neg g] at h
  have e17 : (nm.toList == [108, 117, 105]) = false := beq_eq_false_iff_ne.2 g
  clear g
  obtain ⟨v, hv, h⟩ := Option.map_eq_some_iff.1 h
  obtain ⟨rfl, rfl⟩ := Prod.mk.inj h
  have SF := Lib.hid (fun w => ferryref09_shifts.calls k nm x1 x2 d a i s t v w hv)
  clear h hv
  go_enter Tryd.func11, Tryd.ntmps11
  go_wp2_with (first | (go_at_call 22; (with_reducible refine (EN.out _).mono ?_); rintro ex w1 ⟨rfl, hb⟩; have D1 := Lib.hid (D0.out.step hb); clear hb; have c := D1.out.cells; obtain ⟨c0, c1, c2, c3, c4, c5⟩ := c) | (go_at_call 13; (with_reducible refine (KN.out _).mono ?_); rintro ex w2 ⟨rfl, hb⟩; replace hb := Drawn0.below hb; clear c0 c1 c2 c3 c4 c5; have D2 := Lib.hid (D1.out.step hb); clear hb; have c := D2.out.cells; obtain ⟨c0, c1, c2, c3, c4, c5⟩ := c) | (go_at_call 23; (with_reducible refine (SX.out _).mono ?_); rintro ex w3 ⟨rfl, hb⟩; replace hb := Drawn0.below hb; clear c0 c1 c2 c3 c4 c5; have D3 := Lib.hid (D2.out.step hb); clear hb; have c := D3.out.cells; obtain ⟨c0, c1, c2, c3, c4, c5⟩ := c) | (go_at_call 27; (with_reducible refine (SF.out _).mono ?_); rintro ex w4 ⟨rfl, hb⟩; clear c0 c1 c2 c3 c4 c5; have D4 := Lib.hid (D3.out.step hb); clear hb; have c := D4.out.cells; obtain ⟨c0, c1, c2, c3, c4, c5⟩ := c))
  go_ret2
  exact ⟨rfl, D4.out.bel⟩
end Go.Proofs.YtnddjndgfaefaaaDoor.F
end
