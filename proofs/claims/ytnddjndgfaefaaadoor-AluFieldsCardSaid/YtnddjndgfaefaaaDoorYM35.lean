import Derived.Below
import Derived.Deep.Draws
import Derived.Deep.AppendLies
import Derived.Maps.AppendAt
import Derived.OwnWalk
import Derived.Laws.BytesArg
import Derived.Laws.MakeOwn
import Derived.Laws.OwnMore
import Derived.Deep.OwnRows
import Derived.Tactics
import Derived.Lib.ConvBytes
import Derived.Laws.Slices
import Derived.WalkKit
import Derived.KernelRfl
import Derived.RowKit3
import Derived.Deep.LoopGhost
import Derived.Deep.QuietTactic
import Derived.BigQuiet
import Derived.WideLaws
import Derived.Deep.DeepCutAuto
import Derived.Deep.CutBlock
import Derived.Deep.RegionHeld3
import Derived.Laws.Rows
import Derived.Lib.AppendStr
import Derived.ArgAppend
import Derived.Laws.IdiomCopy
import Derived.RowKit
import Derived.OrdersHeld
import Derived.Laws.BitsLemmas
import Derived.Laws.StructEq
import Derived.WalkLawsBesides
import Derived.Shelf.Abstract
import Derived.Shelf.RegionOpen
import Derived.RangeFuncRecord
import Derived.OwnWalkIn
import Derived.ProofKit
import Derived.Lib.Hide
import Derived.Shelf.Small.Bits
import Derived.Shelf.LaysM
import Derived.Shelf.Strings.Fields
import Derived.Shelf.Strings.Replace
import Derived.Shelf.Strings.SplitShaped
import Derived.Lib.LaidTab
import Derived.Maps.OwnOps
import Derived.WalkSmall
import Derived.Laws.ResultCell
import Derived.Deep.RegionWith
import Derived.Defers
import Derived.Recover
import Derived.Tactics2
import Derived.Lib.ItoaNum
import Derived.Test.YtnddjndgfaefaaaDoorZF0
import Derived.Test.YtnddjndgfaefaaaDoorYA14FDecEncode
import Derived.Test.YtnddjndgfaefaaaDoorYB22
import Derived.Test.YtnddjndgfaefaaaDoorYC23PAlu5
section
namespace Go.Proofs.YtnddjndgfaefaaaDoor.F
open Go.RowKit Go.Proofs.YtnddjndgfaefaaaDoorW.PrintWords Go.Proofs.YtnddjndgfaefaaaDoorW.PrintLast Go.Proofs.YtnddjndgfaefaaaDoorW.PrintMore
set_option linter.unusedVariables false
theorem bv_andNot {w : Nat} (x y : BitVec w) : (x &&& ~~~y).toNat + (x &&& y).toNat = x.toNat := by
  have h : (x &&& ~~~y) &&& (x &&& y) = 0#w := by
    ext i hi
    simp
    cases x[i] <;> cases y[i] <;> simp
  rw [← BitVec.toNat_add_of_and_eq_zero h, BitVec.add_eq_or_of_and_eq_zero _ _ h]
  congr 1
  ext i hi
  simp
  cases x[i] <;> cases y[i] <;> simp
theorem andNot32 (a b : Nat) (ha : a < 2 ^ 32) (hb : b < 2 ^ 32) : Go.bits .andNot .u32 a b = (a : Int) - ((a &&& b : Nat) : Int) := by
  have h := bv_andNot (BitVec.ofNat 32 a) (BitVec.ofNat 32 b)
  have e : (BitVec.ofNat 32 a &&& BitVec.ofNat 32 b).toNat = a &&& b := by
    rw [BitVec.toNat_and, BitVec.toNat_ofNat, BitVec.toNat_ofNat, Nat.mod_eq_of_lt ha, Nat.mod_eq_of_lt hb]
  rw [e, BitVec.toNat_ofNat, Nat.mod_eq_of_lt ha] at h
  show IntKind.u32.wrap (((BitVec.ofInt 32 (a : Int) &&& ~~~BitVec.ofInt 32 (b : Int)).toNat : Nat) : Int) = _
  rw [BitVec.ofInt_natCast, BitVec.ofInt_natCast, u32_keep _ (by omega) (by omega)]
  omega
theorem nat_mask_at (x i j : Nat) : x &&& ((2 ^ i - 1) * 2 ^ j) = x / 2 ^ j % 2 ^ i * 2 ^ j := by
  rw [← Nat.shiftLeft_eq, ← Nat.and_two_pow_sub_one_eq_mod, ← Nat.shiftRight_eq_div_pow, ← Nat.shiftLeft_eq]
  apply Nat.eq_of_testBit_eq
  intro k
  simp only [Nat.testBit_and, Nat.testBit_shiftLeft, Nat.testBit_shiftRight, Nat.testBit_two_pow_sub_one]
  by_cases h : j ≤ k
  · simp [h]
  · simp [h]
end Go.Proofs.YtnddjndgfaefaaaDoor.F
end
section
namespace Go.Proofs.YtnddjndgfaefaaaDoor.F
set_option linter.unusedVariables false
set_option linter.unusedSimpArgs false
open Go.RowKit Go.Proofs.YtnddjndgfaefaaaDoorW.PrintWords Go.Proofs.YtnddjndgfaefaaaDoorW.PrintLast Go.Proofs.YtnddjndgfaefaaaDoorW.PrintMore

theorem encs_ins : (List.range 32).all (fun h => (List.range (h + 1)).all (fun l => ((dec_Encode.f ⟨#[105, 110, 115]⟩ 0 0 (h : Int) (l : Int) 0).map (·.2)) == some true)) = true := by decide +kernel
theorem encs_ext : (List.range 32).all (fun h => (List.range (32 - h)).all (fun l => ((dec_Encode.f ⟨#[101, 120, 116]⟩ 0 0 (h : Int) (l : Int) 0).map (·.2)) == some true)) = true := by decide +kernel
theorem enc_ins (h l : Nat) (hh : h < 32) (hl : l ≤ h) : ∃ v, dec_Encode.f ⟨#[105, 110, 115]⟩ 0 0 (h : Int) (l : Int) 0 = some (v, true) :=
  enc_get (List.all_eq_true.1 (List.all_eq_true.1 encs_ins h (List.mem_range.2 hh)) l (List.mem_range.2 (by omega)))
theorem enc_ext (h l : Nat) (hl : h + l < 32) : ∃ v, dec_Encode.f ⟨#[101, 120, 116]⟩ 0 0 (h : Int) (l : Int) 0 = some (v, true) :=
  enc_get (List.all_eq_true.1 (List.all_eq_true.1 encs_ext h (List.mem_range.2 (by omega))) l (List.mem_range.2 (by omega)))
end Go.Proofs.YtnddjndgfaefaaaDoor.F
end
