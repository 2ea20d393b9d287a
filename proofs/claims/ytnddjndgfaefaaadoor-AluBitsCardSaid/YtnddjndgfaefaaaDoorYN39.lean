import Derived.Below
import Derived.Deep.Draws
import Derived.Deep.AppendLies
import Derived.Maps.AppendAt
import Derived.OwnWalk
import Derived.Laws.BytesArg
import Derived.Laws.MakeOwn
import Derived.Laws.OwnMore
import Derived.Deep.OwnRows
import Derived.Tactics
import Derived.Lib.ConvBytes
import Derived.Laws.Slices
import Derived.WalkKit
import Derived.KernelRfl
import Derived.RowKit3
import Derived.Deep.LoopGhost
import Derived.Deep.QuietTactic
import Derived.BigQuiet
import Derived.WideLaws
import Derived.Deep.DeepCutAuto
import Derived.Deep.CutBlock
import Derived.Deep.RegionHeld3
import Derived.Laws.Rows
import Derived.Lib.AppendStr
import Derived.ArgAppend
import Derived.Laws.IdiomCopy
import Derived.RowKit
import Derived.OrdersHeld
import Derived.Laws.BitsLemmas
import Derived.Laws.StructEq
import Derived.WalkLawsBesides
import Derived.Shelf.Abstract
import Derived.Shelf.RegionOpen
import Derived.RangeFuncRecord
import Derived.OwnWalkIn
import Derived.ProofKit
import Derived.Lib.Hide
import Derived.Shelf.Small.Bits
import Derived.Shelf.LaysM
import Derived.Shelf.Strings.Fields
import Derived.Shelf.Strings.Replace
import Derived.Shelf.Strings.SplitShaped
import Derived.Lib.LaidTab
import Derived.Maps.OwnOps
import Derived.WalkSmall
import Derived.Laws.ResultCell
import Derived.Deep.RegionWith
import Derived.Lib.ItoaNum
import Derived.Defers
import Derived.Recover
import Derived.Tactics2
import Derived.Test.YtnddjndgfaefaaaDoorZF0
import Derived.Test.YtnddjndgfaefaaaDoorYA14FDecEncode
import Derived.Test.YtnddjndgfaefaaaDoorYA16HAluDo
import Derived.Test.YtnddjndgfaefaaaDoorYA17FFerrylaw09Of
import Derived.Test.YtnddjndgfaefaaaDoorYC23PAlu5
import Derived.Test.YtnddjndgfaefaaaDoorYJ30
section
namespace Go.Proofs.YtnddjndgfaefaaaDoor.F
set_option linter.unusedVariables false
open Go.RowKit Go.Proofs.YtnddjndgfaefaaaDoorW.PrintWords Go.Proofs.YtnddjndgfaefaaaDoorW.PrintLast Go.Proofs.YtnddjndgfaefaaaDoorW.PrintMore
theorem sw_dig (a b c d : Int) (a0 : 0 ≤ a) (a1 : a < 256) (b0 : 0 ≤ b) (b1 : b < 256) (c0 : 0 ≤ c) (c1 : c < 256) (d0 : 0 ≤ d) (d1 : d < 256) :
    swOf (a * 16777216 + b * 65536 + c * 256 + d) = b * 16777216 + a * 65536 + d * 256 + c := by
  rw [sw_val _ (by omega) (by omega)]
  have e1 : (a * 16777216 + b * 65536 + c * 256 + d) / 256 % 256 = c := by omega
  have e2 : (a * 16777216 + b * 65536 + c * 256 + d) / 16777216 = a := by omega
  have e3 : (a * 16777216 + b * 65536 + c * 256 + d) % 256 = d := by omega
  have e4 : (a * 16777216 + b * 65536 + c * 256 + d) / 65536 % 256 = b := by omega
  rw [e1, e2, e3, e4]
  omega
theorem sw_back (t : Int) (h0 : 0 ≤ t) (h1 : t ≤ 4294967295) : swOf (swOf t) = t := by
  have e : t = t / 16777216 * 16777216 + t / 65536 % 256 * 65536 + t / 256 % 256 * 256 + t % 256 := by omega
  have b1 : 0 ≤ t / 16777216 ∧ t / 16777216 < 256 := by omega
  have b2 : 0 ≤ t / 65536 % 256 ∧ t / 65536 % 256 < 256 := by omega
  have b3 : 0 ≤ t / 256 % 256 ∧ t / 256 % 256 < 256 := by omega
  have b4 : 0 ≤ t % 256 ∧ t % 256 < 256 := by omega
  generalize t / 16777216 = x at e b1
  generalize t / 65536 % 256 = y at e b2
  generalize t / 256 % 256 = z at e b3
  generalize t % 256 = u at e b4
  rw [e, sw_dig x y z u b1.1 b1.2 b2.1 b2.2 b3.1 b3.2 b4.1 b4.2, sw_dig y x u z b2.1 b2.2 b1.1 b1.2 b4.1 b4.2 b3.1 b3.2]
end Go.Proofs.YtnddjndgfaefaaaDoor.F
end
section
namespace Go.Proofs.YtnddjndgfaefaaaDoor.F
set_option linter.unusedVariables false
set_option linter.unusedSimpArgs false
open Go.RowKit Go.Proofs.YtnddjndgfaefaaaDoorW.PrintWords Go.Proofs.YtnddjndgfaefaaaDoorW.PrintLast Go.Proofs.YtnddjndgfaefaaaDoorW.PrintMore

theorem encz_clz : ((dec_Encode.f ⟨#[99, 108, 122]⟩ 0 0 0 0 0).map (·.2) == some true) = true := by decide +kernel
theorem of_clz (s t : Int) (s0 : 0 ≤ s) (s1 : s ≤ 4294967295) (t0 : 0 ≤ t) (t1 : t ≤ 4294967295) : ferrylaw09_of.f ⟨#[99, 108, 122]⟩ s t = some (32 - (Lib.bitLen s.toNat : Int), true) := by
  obtain ⟨v, he⟩ := enc_get encz_clz
  unfold ferrylaw09_of.f
  rw [aval_clz 0 0 0 0 0 s t v s0 s1 t0 t1 (by decide) (by decide) (by decide) (by decide) (by decide) (by decide) he, Option.bind_some]
theorem encz_clo : ((dec_Encode.f ⟨#[99, 108, 111]⟩ 0 0 0 0 0).map (·.2) == some true) = true := by decide +kernel
theorem of_clo (s t : Int) (s0 : 0 ≤ s) (s1 : s ≤ 4294967295) (t0 : 0 ≤ t) (t1 : t ≤ 4294967295) : ferrylaw09_of.f ⟨#[99, 108, 111]⟩ s t = some (32 - (Lib.bitLen (4294967295 - s).toNat : Int), true) := by
  obtain ⟨v, he⟩ := enc_get encz_clo
  unfold ferrylaw09_of.f
  rw [aval_clo 0 0 0 0 0 s t v s0 s1 t0 t1 (by decide) (by decide) (by decide) (by decide) (by decide) (by decide) he, Option.bind_some]
theorem encz_wsbh : ((dec_Encode.f ⟨#[119, 115, 98, 104]⟩ 0 0 0 0 0).map (·.2) == some true) = true := by decide +kernel
theorem of_wsbh (s t : Int) (s0 : 0 ≤ s) (s1 : s ≤ 4294967295) (t0 : 0 ≤ t) (t1 : t ≤ 4294967295) : ferrylaw09_of.f ⟨#[119, 115, 98, 104]⟩ s t = some (swOf t, true) := by
  obtain ⟨v, he⟩ := enc_get encz_wsbh
  unfold ferrylaw09_of.f
  rw [aval_wsbh 0 0 0 0 0 s t v s0 s1 t0 t1 (by decide) (by decide) (by decide) (by decide) (by decide) (by decide) he, Option.bind_some]
theorem encs_sll : (List.range 32).all (fun k => ((dec_Encode.f ⟨#[115, 108, 108]⟩ 0 0 0 (k : Int) 0).map (·.2)) == some true) = true := by decide +kernel
theorem shift_sll (t : Int) (k : Nat) (hk : k < 32) (t0 : 0 ≤ t) (t1 : t ≤ 4294967295) : alu_Do.f ⟨#[115, 108, 108]⟩ 0 0 0 (k : Int) 0 0 t = some (t * 2 ^ k % 4294967296, true) := by
  obtain ⟨v, he⟩ := enc_get (List.all_eq_true.1 encs_sll k (List.mem_range.2 hk))
  rw [aval_sll 0 0 0 (k : Int) 0 0 t v (by decide) (by decide) t0 t1 (by decide) (by decide) (by decide) (by decide) (by omega) (by omega) he, Int.toNat_natCast]
theorem encs_srl : (List.range 32).all (fun k => ((dec_Encode.f ⟨#[115, 114, 108]⟩ 0 0 0 (k : Int) 0).map (·.2)) == some true) = true := by decide +kernel
theorem shift_srl (t : Int) (k : Nat) (hk : k < 32) (t0 : 0 ≤ t) (t1 : t ≤ 4294967295) : alu_Do.f ⟨#[115, 114, 108]⟩ 0 0 0 (k : Int) 0 0 t = some (t / 2 ^ k, true) := by
  obtain ⟨v, he⟩ := enc_get (List.all_eq_true.1 encs_srl k (List.mem_range.2 hk))
  rw [aval_srl 0 0 0 (k : Int) 0 0 t v (by decide) (by decide) t0 t1 (by decide) (by decide) (by decide) (by decide) (by omega) (by omega) he, Int.toNat_natCast]
theorem encs_rotr : (List.range 32).all (fun k => ((dec_Encode.f ⟨#[114, 111, 116, 114]⟩ 0 0 0 (k : Int) 0).map (·.2)) == some true) = true := by decide +kernel
theorem shift_rotr (t : Int) (k : Nat) (hk : k < 32) (t0 : 0 ≤ t) (t1 : t ≤ 4294967295) : alu_Do.f ⟨#[114, 111, 116, 114]⟩ 0 0 0 (k : Int) 0 0 t = some (rotOf t k, true) := by
  obtain ⟨v, he⟩ := enc_get (List.all_eq_true.1 encs_rotr k (List.mem_range.2 hk))
  rw [aval_rotr 0 0 0 (k : Int) 0 0 t v (by decide) (by decide) t0 t1 (by decide) (by decide) (by decide) (by decide) (by omega) (by omega) he, Int.toNat_natCast]
end Go.Proofs.YtnddjndgfaefaaaDoor.F
end
