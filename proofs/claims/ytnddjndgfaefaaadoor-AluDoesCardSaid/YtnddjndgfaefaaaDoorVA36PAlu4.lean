import Derived.Below
import Derived.Deep.Draws
import Derived.Deep.AppendLies
import Derived.Maps.AppendAt
import Derived.OwnWalk
import Derived.Laws.BytesArg
import Derived.Laws.MakeOwn
import Derived.Laws.OwnMore
import Derived.Deep.OwnRows
import Derived.Tactics
import Derived.Lib.ConvBytes
import Derived.Laws.Slices
import Derived.WalkKit
import Derived.KernelRfl
import Derived.RowKit3
import Derived.Deep.LoopGhost
import Derived.Deep.QuietTactic
import Derived.BigQuiet
import Derived.WideLaws
import Derived.Deep.DeepCutAuto
import Derived.Deep.CutBlock
import Derived.Deep.RegionHeld3
import Derived.Laws.Rows
import Derived.Lib.AppendStr
import Derived.ArgAppend
import Derived.Laws.IdiomCopy
import Derived.RowKit
import Derived.OrdersHeld
import Derived.Laws.BitsLemmas
import Derived.Laws.StructEq
import Derived.WalkLawsBesides
import Derived.Shelf.Abstract
import Derived.Shelf.RegionOpen
import Derived.RangeFuncRecord
import Derived.OwnWalkIn
import Derived.ProofKit
import Derived.Lib.Hide
import Derived.Shelf.Small.Bits
import Derived.Shelf.LaysM
import Derived.Shelf.Strings.Fields
import Derived.Shelf.Strings.Replace
import Derived.Shelf.Strings.SplitShaped
import Derived.Lib.LaidTab
import Derived.Maps.OwnOps
import Derived.WalkSmall
import Derived.Laws.ResultCell
import Derived.Deep.RegionWith
import Derived.Defers
import Derived.Recover
import Derived.Tactics2
import Derived.Lib.ItoaNum
import Derived.Test.YtnddjndgfaefaaaDoorVZF0
import Derived.Test.YtnddjndgfaefaaaDoorVA0
import Derived.Test.YtnddjndgfaefaaaDoorVA2
import Derived.Test.YtnddjndgfaefaaaDoorVA4
import Derived.Test.YtnddjndgfaefaaaDoorVA8
import Derived.Test.YtnddjndgfaefaaaDoorVA11HDecFind
import Derived.Test.YtnddjndgfaefaaaDoorVA15FDecEncode
import Derived.Test.YtnddjndgfaefaaaDoorVA16FDecForm
import Derived.Test.YtnddjndgfaefaaaDoorVA17HAluDo
import Derived.Test.YtnddjndgfaefaaaDoorVA20
import Derived.Test.YtnddjndgfaefaaaDoorVA24FFerryref07Encode
import Derived.Test.YtnddjndgfaefaaaDoorVA25
import Derived.Test.YtnddjndgfaefaaaDoorVA26HAluRef
import Derived.Test.YtnddjndgfaefaaaDoorVA28
import Derived.Test.YtnddjndgfaefaaaDoorVA33PDec6
import Derived.Test.YtnddjndgfaefaaaDoorVA35PAlu3
section
namespace Go.Proofs.YtnddjndgfaefaaaDoor.F
set_option linter.unusedVariables false
set_option linter.unusedSimpArgs false
open Go.RowKit Go.Proofs.YtnddjndgfaefaaaDoorW.PrintWords Go.Proofs.YtnddjndgfaefaaaDoorW.PrintLast Go.Proofs.YtnddjndgfaefaaaDoorW.PrintMore
attribute [local irreducible] dec_Encode.f dec_Form.f ferryref07_Encode.f
theorem tm32 {s : Int} (s0 : 0 ≤ s) (s1 : s ≤ 4294967295) : IntKind.u64.wrap (Int.tmod s 32) = ((s % 32).toNat : Int) := by
  rw [Int.tmod_eq_emod_of_nonneg s0, u64w]
  omega
theorem right_of (t : Int) (k : Nat) (hk : k < 32) : ferryref09_right.f t (k : Int) = some (wrap32 t / 2 ^ k % 4294967296) := by
  unfold ferryref09_right.f
  rw [if_pos (by omega), shr32 _ rfl _ _ (by omega)]
theorem rknown_add : ferryref09_Known.f ⟨#[97, 100, 100]⟩ = some true := by decide +kernel
theorem rknown_sub : ferryref09_Known.f ⟨#[115, 117, 98]⟩ = some true := by decide +kernel
theorem rknown_addi : ferryref09_Known.f ⟨#[97, 100, 100, 105]⟩ = some true := by decide +kernel
theorem rknown_addu : ferryref09_Known.f ⟨#[97, 100, 100, 117]⟩ = some true := by decide +kernel
theorem rknown_subu : ferryref09_Known.f ⟨#[115, 117, 98, 117]⟩ = some true := by decide +kernel
theorem rknown_addiu : ferryref09_Known.f ⟨#[97, 100, 100, 105, 117]⟩ = some true := by decide +kernel
theorem rknown_and : ferryref09_Known.f ⟨#[97, 110, 100]⟩ = some true := by decide +kernel
theorem rknown_or : ferryref09_Known.f ⟨#[111, 114]⟩ = some true := by decide +kernel
theorem rknown_xor : ferryref09_Known.f ⟨#[120, 111, 114]⟩ = some true := by decide +kernel
theorem rknown_nor : ferryref09_Known.f ⟨#[110, 111, 114]⟩ = some true := by decide +kernel
theorem rknown_andi : ferryref09_Known.f ⟨#[97, 110, 100, 105]⟩ = some true := by decide +kernel
theorem rknown_ori : ferryref09_Known.f ⟨#[111, 114, 105]⟩ = some true := by decide +kernel
theorem rknown_xori : ferryref09_Known.f ⟨#[120, 111, 114, 105]⟩ = some true := by decide +kernel
theorem rknown_slt : ferryref09_Known.f ⟨#[115, 108, 116]⟩ = some true := by decide +kernel
theorem rknown_sltu : ferryref09_Known.f ⟨#[115, 108, 116, 117]⟩ = some true := by decide +kernel
theorem rknown_slti : ferryref09_Known.f ⟨#[115, 108, 116, 105]⟩ = some true := by decide +kernel
theorem rknown_sltiu : ferryref09_Known.f ⟨#[115, 108, 116, 105, 117]⟩ = some true := by decide +kernel
theorem rknown_lui : ferryref09_Known.f ⟨#[108, 117, 105]⟩ = some true := by decide +kernel
theorem rknown_sll : ferryref09_Known.f ⟨#[115, 108, 108]⟩ = some true := by decide +kernel
theorem rknown_srl : ferryref09_Known.f ⟨#[115, 114, 108]⟩ = some true := by decide +kernel
theorem rknown_sra : ferryref09_Known.f ⟨#[115, 114, 97]⟩ = some true := by decide +kernel
theorem rknown_sllv : ferryref09_Known.f ⟨#[115, 108, 108, 118]⟩ = some true := by decide +kernel
theorem rknown_srlv : ferryref09_Known.f ⟨#[115, 114, 108, 118]⟩ = some true := by decide +kernel
theorem rknown_srav : ferryref09_Known.f ⟨#[115, 114, 97, 118]⟩ = some true := by decide +kernel
theorem rknown_rotr : ferryref09_Known.f ⟨#[114, 111, 116, 114]⟩ = some true := by decide +kernel
theorem rknown_rotrv : ferryref09_Known.f ⟨#[114, 111, 116, 114, 118]⟩ = some true := by decide +kernel
theorem rknown_mul : ferryref09_Known.f ⟨#[109, 117, 108]⟩ = some true := by decide +kernel
theorem rknown_clz : ferryref09_Known.f ⟨#[99, 108, 122]⟩ = some true := by decide +kernel
theorem rknown_clo : ferryref09_Known.f ⟨#[99, 108, 111]⟩ = some true := by decide +kernel
theorem rknown_ext : ferryref09_Known.f ⟨#[101, 120, 116]⟩ = some true := by decide +kernel
theorem rknown_ins : ferryref09_Known.f ⟨#[105, 110, 115]⟩ = some true := by decide +kernel
theorem rknown_wsbh : ferryref09_Known.f ⟨#[119, 115, 98, 104]⟩ = some true := by decide +kernel
theorem rknown_seb : ferryref09_Known.f ⟨#[115, 101, 98]⟩ = some true := by decide +kernel
theorem rknown_seh : ferryref09_Known.f ⟨#[115, 101, 104]⟩ = some true := by decide +kernel
set_option maxHeartbeats 2000000 in
theorem rval_add (x1 x2 d a i s t v : Int) (s0 : 0 ≤ s) (s1 : s ≤ 4294967295) (t0 : 0 ≤ t) (t1 : t ≤ 4294967295) (i0 : 0 ≤ i) (i1 : i ≤ 4294967295) (d0 : 0 ≤ d) (d1 : d < 32) (a0 : 0 ≤ a) (a1 : a < 32) (he : dec_Encode.f ⟨#[97, 100, 100]⟩ x1 x2 d a i = some (v, true)) :
    ferryref09_Do.f 40 ⟨#[97, 100, 100]⟩ x1 x2 d a i s t = some (if sumOver s t = true then ((0 : Int), false) else ((s + t) % 4294967296, true)) := by
  have hen := enc_eq 39 ⟨#[97, 100, 100]⟩ ⟨x1, x2, d, a, i⟩ i0 i1
  dsimp only at hen
  have hsx : ferryref01_Sext.f 40 i 16 = some (sxOf i 16) := (ref_Sext_spec 39 i 16 i0 i1 (by decide) (by decide)).trans (swap_Sext_spec i 16 i0 i1 (by decide) (by decide))
  unfold ferryref09_Do.f
  rw [hen, he, Option.bind_some]
  dsimp only
  rw [if_pos rfl, rknown_add, Option.bind_some, if_pos rfl, hsx, Option.bind_some]
  rw [l_add, if_pos rfl]
  rw [ref_sum s0 s1 t0 t1]
set_option maxHeartbeats 2000000 in
theorem rval_sub (x1 x2 d a i s t v : Int) (s0 : 0 ≤ s) (s1 : s ≤ 4294967295) (t0 : 0 ≤ t) (t1 : t ≤ 4294967295) (i0 : 0 ≤ i) (i1 : i ≤ 4294967295) (d0 : 0 ≤ d) (d1 : d < 32) (a0 : 0 ≤ a) (a1 : a < 32) (he : dec_Encode.f ⟨#[115, 117, 98]⟩ x1 x2 d a i = some (v, true)) :
    ferryref09_Do.f 40 ⟨#[115, 117, 98]⟩ x1 x2 d a i s t = some (if lessOver s t = true then ((0 : Int), false) else ((s - t) % 4294967296, true)) := by
  have hen := enc_eq 39 ⟨#[115, 117, 98]⟩ ⟨x1, x2, d, a, i⟩ i0 i1
  dsimp only at hen
  have hsx : ferryref01_Sext.f 40 i 16 = some (sxOf i 16) := (ref_Sext_spec 39 i 16 i0 i1 (by decide) (by decide)).trans (swap_Sext_spec i 16 i0 i1 (by decide) (by decide))
  unfold ferryref09_Do.f
  rw [hen, he, Option.bind_some]
  dsimp only
  rw [if_pos rfl, rknown_sub, Option.bind_some, if_pos rfl, hsx, Option.bind_some]
  rw [l_sub, if_neg (by decide), if_pos rfl]
  rw [ref_diff s0 s1 t0 t1]
set_option maxHeartbeats 2000000 in
theorem rval_addi (x1 x2 d a i s t v : Int) (s0 : 0 ≤ s) (s1 : s ≤ 4294967295) (t0 : 0 ≤ t) (t1 : t ≤ 4294967295) (i0 : 0 ≤ i) (i1 : i ≤ 4294967295) (d0 : 0 ≤ d) (d1 : d < 32) (a0 : 0 ≤ a) (a1 : a < 32) (he : dec_Encode.f ⟨#[97, 100, 100, 105]⟩ x1 x2 d a i = some (v, true)) :
    ferryref09_Do.f 40 ⟨#[97, 100, 100, 105]⟩ x1 x2 d a i s t = some (if sumOver s (sxOf i 16) = true then ((0 : Int), false) else ((s + sxOf i 16) % 4294967296, true)) := by
  have hen := enc_eq 39 ⟨#[97, 100, 100, 105]⟩ ⟨x1, x2, d, a, i⟩ i0 i1
  dsimp only at hen
  have hsx : ferryref01_Sext.f 40 i 16 = some (sxOf i 16) := (ref_Sext_spec 39 i 16 i0 i1 (by decide) (by decide)).trans (swap_Sext_spec i 16 i0 i1 (by decide) (by decide))
  unfold ferryref09_Do.f
  rw [hen, he, Option.bind_some]
  dsimp only
  rw [if_pos rfl, rknown_addi, Option.bind_some, if_pos rfl, hsx, Option.bind_some]
  rw [l_addi, if_neg (by decide), if_neg (by decide), if_pos rfl]
  rw [ref_sum s0 s1 (sx16 i0 i1).1 (sx16 i0 i1).2]
set_option maxHeartbeats 2000000 in
theorem rval_addu (x1 x2 d a i s t v : Int) (s0 : 0 ≤ s) (s1 : s ≤ 4294967295) (t0 : 0 ≤ t) (t1 : t ≤ 4294967295) (i0 : 0 ≤ i) (i1 : i ≤ 4294967295) (d0 : 0 ≤ d) (d1 : d < 32) (a0 : 0 ≤ a) (a1 : a < 32) (he : dec_Encode.f ⟨#[97, 100, 100, 117]⟩ x1 x2 d a i = some (v, true)) :
    ferryref09_Do.f 40 ⟨#[97, 100, 100, 117]⟩ x1 x2 d a i s t = some ((s + t) % 4294967296, true) := by
  have hen := enc_eq 39 ⟨#[97, 100, 100, 117]⟩ ⟨x1, x2, d, a, i⟩ i0 i1
  dsimp only at hen
  have hsx : ferryref01_Sext.f 40 i 16 = some (sxOf i 16) := (ref_Sext_spec 39 i 16 i0 i1 (by decide) (by decide)).trans (swap_Sext_spec i 16 i0 i1 (by decide) (by decide))
  unfold ferryref09_Do.f
  rw [hen, he, Option.bind_some]
  dsimp only
  rw [if_pos rfl, rknown_addu, Option.bind_some, if_pos rfl, hsx, Option.bind_some]
  rw [l_addu, if_neg (by decide), if_neg (by decide), if_neg (by decide), if_pos rfl]
set_option maxHeartbeats 2000000 in
theorem rval_subu (x1 x2 d a i s t v : Int) (s0 : 0 ≤ s) (s1 : s ≤ 4294967295) (t0 : 0 ≤ t) (t1 : t ≤ 4294967295) (i0 : 0 ≤ i) (i1 : i ≤ 4294967295) (d0 : 0 ≤ d) (d1 : d < 32) (a0 : 0 ≤ a) (a1 : a < 32) (he : dec_Encode.f ⟨#[115, 117, 98, 117]⟩ x1 x2 d a i = some (v, true)) :
    ferryref09_Do.f 40 ⟨#[115, 117, 98, 117]⟩ x1 x2 d a i s t = some ((s - t) % 4294967296, true) := by
  have hen := enc_eq 39 ⟨#[115, 117, 98, 117]⟩ ⟨x1, x2, d, a, i⟩ i0 i1
  dsimp only at hen
  have hsx : ferryref01_Sext.f 40 i 16 = some (sxOf i 16) := (ref_Sext_spec 39 i 16 i0 i1 (by decide) (by decide)).trans (swap_Sext_spec i 16 i0 i1 (by decide) (by decide))
  unfold ferryref09_Do.f
  rw [hen, he, Option.bind_some]
  dsimp only
  rw [if_pos rfl, rknown_subu, Option.bind_some, if_pos rfl, hsx, Option.bind_some]
  rw [l_subu, if_neg (by decide), if_neg (by decide), if_neg (by decide), if_neg (by decide), if_pos rfl]
set_option maxHeartbeats 2000000 in
theorem rval_addiu (x1 x2 d a i s t v : Int) (s0 : 0 ≤ s) (s1 : s ≤ 4294967295) (t0 : 0 ≤ t) (t1 : t ≤ 4294967295) (i0 : 0 ≤ i) (i1 : i ≤ 4294967295) (d0 : 0 ≤ d) (d1 : d < 32) (a0 : 0 ≤ a) (a1 : a < 32) (he : dec_Encode.f ⟨#[97, 100, 100, 105, 117]⟩ x1 x2 d a i = some (v, true)) :
    ferryref09_Do.f 40 ⟨#[97, 100, 100, 105, 117]⟩ x1 x2 d a i s t = some ((s + sxOf i 16) % 4294967296, true) := by
  have hen := enc_eq 39 ⟨#[97, 100, 100, 105, 117]⟩ ⟨x1, x2, d, a, i⟩ i0 i1
  dsimp only at hen
  have hsx : ferryref01_Sext.f 40 i 16 = some (sxOf i 16) := (ref_Sext_spec 39 i 16 i0 i1 (by decide) (by decide)).trans (swap_Sext_spec i 16 i0 i1 (by decide) (by decide))
  unfold ferryref09_Do.f
  rw [hen, he, Option.bind_some]
  dsimp only
  rw [if_pos rfl, rknown_addiu, Option.bind_some, if_pos rfl, hsx, Option.bind_some]
  rw [l_addiu, if_neg (by decide), if_neg (by decide), if_neg (by decide), if_neg (by decide), if_neg (by decide), if_pos rfl]
set_option maxHeartbeats 2000000 in
theorem rval_and (x1 x2 d a i s t v : Int) (s0 : 0 ≤ s) (s1 : s ≤ 4294967295) (t0 : 0 ≤ t) (t1 : t ≤ 4294967295) (i0 : 0 ≤ i) (i1 : i ≤ 4294967295) (d0 : 0 ≤ d) (d1 : d < 32) (a0 : 0 ≤ a) (a1 : a < 32) (he : dec_Encode.f ⟨#[97, 110, 100]⟩ x1 x2 d a i = some (v, true)) :
    ferryref09_Do.f 40 ⟨#[97, 110, 100]⟩ x1 x2 d a i s t = some (Go.bits .and .u32 s t, true) := by
  have hen := enc_eq 39 ⟨#[97, 110, 100]⟩ ⟨x1, x2, d, a, i⟩ i0 i1
  dsimp only at hen
  have hsx : ferryref01_Sext.f 40 i 16 = some (sxOf i 16) := (ref_Sext_spec 39 i 16 i0 i1 (by decide) (by decide)).trans (swap_Sext_spec i 16 i0 i1 (by decide) (by decide))
  unfold ferryref09_Do.f
  rw [hen, he, Option.bind_some]
  dsimp only
  rw [if_pos rfl, rknown_and, Option.bind_some, if_pos rfl, hsx, Option.bind_some]
  rw [l_and, if_neg (by decide), if_neg (by decide), if_neg (by decide), if_neg (by decide), if_neg (by decide), if_neg (by decide), if_pos rfl]
set_option maxHeartbeats 2000000 in
theorem rval_or (x1 x2 d a i s t v : Int) (s0 : 0 ≤ s) (s1 : s ≤ 4294967295) (t0 : 0 ≤ t) (t1 : t ≤ 4294967295) (i0 : 0 ≤ i) (i1 : i ≤ 4294967295) (d0 : 0 ≤ d) (d1 : d < 32) (a0 : 0 ≤ a) (a1 : a < 32) (he : dec_Encode.f ⟨#[111, 114]⟩ x1 x2 d a i = some (v, true)) :
    ferryref09_Do.f 40 ⟨#[111, 114]⟩ x1 x2 d a i s t = some (Go.bits .or .u32 s t, true) := by
  have hen := enc_eq 39 ⟨#[111, 114]⟩ ⟨x1, x2, d, a, i⟩ i0 i1
  dsimp only at hen
  have hsx : ferryref01_Sext.f 40 i 16 = some (sxOf i 16) := (ref_Sext_spec 39 i 16 i0 i1 (by decide) (by decide)).trans (swap_Sext_spec i 16 i0 i1 (by decide) (by decide))
  unfold ferryref09_Do.f
  rw [hen, he, Option.bind_some]
  dsimp only
  rw [if_pos rfl, rknown_or, Option.bind_some, if_pos rfl, hsx, Option.bind_some]
  rw [l_or, if_neg (by decide), if_neg (by decide), if_neg (by decide), if_neg (by decide), if_neg (by decide), if_neg (by decide), if_neg (by decide), if_pos rfl]
set_option maxHeartbeats 2000000 in
theorem rval_xor (x1 x2 d a i s t v : Int) (s0 : 0 ≤ s) (s1 : s ≤ 4294967295) (t0 : 0 ≤ t) (t1 : t ≤ 4294967295) (i0 : 0 ≤ i) (i1 : i ≤ 4294967295) (d0 : 0 ≤ d) (d1 : d < 32) (a0 : 0 ≤ a) (a1 : a < 32) (he : dec_Encode.f ⟨#[120, 111, 114]⟩ x1 x2 d a i = some (v, true)) :
    ferryref09_Do.f 40 ⟨#[120, 111, 114]⟩ x1 x2 d a i s t = some (Go.bits .xor .u32 s t, true) := by
  have hen := enc_eq 39 ⟨#[120, 111, 114]⟩ ⟨x1, x2, d, a, i⟩ i0 i1
  dsimp only at hen
  have hsx : ferryref01_Sext.f 40 i 16 = some (sxOf i 16) := (ref_Sext_spec 39 i 16 i0 i1 (by decide) (by decide)).trans (swap_Sext_spec i 16 i0 i1 (by decide) (by decide))
  unfold ferryref09_Do.f
  rw [hen, he, Option.bind_some]
  dsimp only
  rw [if_pos rfl, rknown_xor, Option.bind_some, if_pos rfl, hsx, Option.bind_some]
  rw [l_xor, if_neg (by decide), if_neg (by decide), if_neg (by decide), if_neg (by decide), if_neg (by decide), if_neg (by decide), if_neg (by decide), if_neg (by decide), if_pos rfl]
set_option maxHeartbeats 2000000 in
theorem rval_nor (x1 x2 d a i s t v : Int) (s0 : 0 ≤ s) (s1 : s ≤ 4294967295) (t0 : 0 ≤ t) (t1 : t ≤ 4294967295) (i0 : 0 ≤ i) (i1 : i ≤ 4294967295) (d0 : 0 ≤ d) (d1 : d < 32) (a0 : 0 ≤ a) (a1 : a < 32) (he : dec_Encode.f ⟨#[110, 111, 114]⟩ x1 x2 d a i = some (v, true)) :
    ferryref09_Do.f 40 ⟨#[110, 111, 114]⟩ x1 x2 d a i s t = some (4294967295 - Go.bits .or .u32 s t, true) := by
  have hen := enc_eq 39 ⟨#[110, 111, 114]⟩ ⟨x1, x2, d, a, i⟩ i0 i1
  dsimp only at hen
  have hsx : ferryref01_Sext.f 40 i 16 = some (sxOf i 16) := (ref_Sext_spec 39 i 16 i0 i1 (by decide) (by decide)).trans (swap_Sext_spec i 16 i0 i1 (by decide) (by decide))
  unfold ferryref09_Do.f
  rw [hen, he, Option.bind_some]
  dsimp only
  rw [if_pos rfl, rknown_nor, Option.bind_some, if_pos rfl, hsx, Option.bind_some]
  rw [l_nor, if_neg (by decide), if_neg (by decide), if_neg (by decide), if_neg (by decide), if_neg (by decide), if_neg (by decide), if_neg (by decide), if_neg (by decide), if_neg (by decide), if_pos rfl]
  have hb := bits_range .or (.inr (.inl rfl)) s0 s1 t0 t1
  rw [Int.emod_eq_of_lt (by omega) (by omega)]
set_option maxHeartbeats 2000000 in
theorem rval_andi (x1 x2 d a i s t v : Int) (s0 : 0 ≤ s) (s1 : s ≤ 4294967295) (t0 : 0 ≤ t) (t1 : t ≤ 4294967295) (i0 : 0 ≤ i) (i1 : i ≤ 4294967295) (d0 : 0 ≤ d) (d1 : d < 32) (a0 : 0 ≤ a) (a1 : a < 32) (he : dec_Encode.f ⟨#[97, 110, 100, 105]⟩ x1 x2 d a i = some (v, true)) :
    ferryref09_Do.f 40 ⟨#[97, 110, 100, 105]⟩ x1 x2 d a i s t = some (Go.bits .and .u32 s i, true) := by
  have hen := enc_eq 39 ⟨#[97, 110, 100, 105]⟩ ⟨x1, x2, d, a, i⟩ i0 i1
  dsimp only at hen
  have hsx : ferryref01_Sext.f 40 i 16 = some (sxOf i 16) := (ref_Sext_spec 39 i 16 i0 i1 (by decide) (by decide)).trans (swap_Sext_spec i 16 i0 i1 (by decide) (by decide))
  unfold ferryref09_Do.f
  rw [hen, he, Option.bind_some]
  dsimp only
  rw [if_pos rfl, rknown_andi, Option.bind_some, if_pos rfl, hsx, Option.bind_some]
  rw [l_andi, if_neg (by decide), if_neg (by decide), if_neg (by decide), if_neg (by decide), if_neg (by decide), if_neg (by decide), if_neg (by decide), if_neg (by decide), if_neg (by decide), if_neg (by decide), if_pos rfl]
set_option maxHeartbeats 2000000 in
theorem rval_ori (x1 x2 d a i s t v : Int) (s0 : 0 ≤ s) (s1 : s ≤ 4294967295) (t0 : 0 ≤ t) (t1 : t ≤ 4294967295) (i0 : 0 ≤ i) (i1 : i ≤ 4294967295) (d0 : 0 ≤ d) (d1 : d < 32) (a0 : 0 ≤ a) (a1 : a < 32) (he : dec_Encode.f ⟨#[111, 114, 105]⟩ x1 x2 d a i = some (v, true)) :
    ferryref09_Do.f 40 ⟨#[111, 114, 105]⟩ x1 x2 d a i s t = some (Go.bits .or .u32 s i, true) := by
  have hen := enc_eq 39 ⟨#[111, 114, 105]⟩ ⟨x1, x2, d, a, i⟩ i0 i1
  dsimp only at hen
  have hsx : ferryref01_Sext.f 40 i 16 = some (sxOf i 16) := (ref_Sext_spec 39 i 16 i0 i1 (by decide) (by decide)).trans (swap_Sext_spec i 16 i0 i1 (by decide) (by decide))
  unfold ferryref09_Do.f
  rw [hen, he, Option.bind_some]
  dsimp only
  rw [if_pos rfl, rknown_ori, Option.bind_some, if_pos rfl, hsx, Option.bind_some]
  rw [l_ori, if_neg (by decide), if_neg (by decide), if_neg (by decide), if_neg (by decide), if_neg (by decide), if_neg (by decide), if_neg (by decide), if_neg (by decide), if_neg (by decide), if_neg (by decide), if_neg (by decide), if_pos rfl]
set_option maxHeartbeats 2000000 in
theorem rval_xori (x1 x2 d a i s t v : Int) (s0 : 0 ≤ s) (s1 : s ≤ 4294967295) (t0 : 0 ≤ t) (t1 : t ≤ 4294967295) (i0 : 0 ≤ i) (i1 : i ≤ 4294967295) (d0 : 0 ≤ d) (d1 : d < 32) (a0 : 0 ≤ a) (a1 : a < 32) (he : dec_Encode.f ⟨#[120, 111, 114, 105]⟩ x1 x2 d a i = some (v, true)) :
    ferryref09_Do.f 40 ⟨#[120, 111, 114, 105]⟩ x1 x2 d a i s t = some (Go.bits .xor .u32 s i, true) := by
  have hen := enc_eq 39 ⟨#[120, 111, 114, 105]⟩ ⟨x1, x2, d, a, i⟩ i0 i1
  dsimp only at hen
  have hsx : ferryref01_Sext.f 40 i 16 = some (sxOf i 16) := (ref_Sext_spec 39 i 16 i0 i1 (by decide) (by decide)).trans (swap_Sext_spec i 16 i0 i1 (by decide) (by decide))
  unfold ferryref09_Do.f
  rw [hen, he, Option.bind_some]
  dsimp only
  rw [if_pos rfl, rknown_xori, Option.bind_some, if_pos rfl, hsx, Option.bind_some]
  rw [l_xori, if_neg (by decide), if_neg (by decide), if_neg (by decide), if_neg (by decide), if_neg (by decide), if_neg (by decide), if_neg (by decide), if_neg (by decide), if_neg (by decide), if_neg (by decide), if_neg (by decide), if_neg (by decide), if_pos rfl]
set_option maxHeartbeats 2000000 in
theorem rval_slt (x1 x2 d a i s t v : Int) (s0 : 0 ≤ s) (s1 : s ≤ 4294967295) (t0 : 0 ≤ t) (t1 : t ≤ 4294967295) (i0 : 0 ≤ i) (i1 : i ≤ 4294967295) (d0 : 0 ≤ d) (d1 : d < 32) (a0 : 0 ≤ a) (a1 : a < 32) (he : dec_Encode.f ⟨#[115, 108, 116]⟩ x1 x2 d a i = some (v, true)) :
    ferryref09_Do.f 40 ⟨#[115, 108, 116]⟩ x1 x2 d a i s t = some ((if wrap32 s < wrap32 t then 1 else 0), true) := by
  have hen := enc_eq 39 ⟨#[115, 108, 116]⟩ ⟨x1, x2, d, a, i⟩ i0 i1
  dsimp only at hen
  have hsx : ferryref01_Sext.f 40 i 16 = some (sxOf i 16) := (ref_Sext_spec 39 i 16 i0 i1 (by decide) (by decide)).trans (swap_Sext_spec i 16 i0 i1 (by decide) (by decide))
  unfold ferryref09_Do.f
  rw [hen, he, Option.bind_some]
  dsimp only
  rw [if_pos rfl, rknown_slt, Option.bind_some, if_pos rfl, hsx, Option.bind_some]
  rw [l_slt, if_neg (by decide), if_neg (by decide), if_neg (by decide), if_neg (by decide), if_neg (by decide), if_neg (by decide), if_neg (by decide), if_neg (by decide), if_neg (by decide), if_neg (by decide), if_neg (by decide), if_neg (by decide), if_neg (by decide), if_pos rfl]
  rw [ref_less s0 s1 t0 t1, Option.bind_some, bit_of]
  rfl
set_option maxHeartbeats 2000000 in
theorem rval_sltu (x1 x2 d a i s t v : Int) (s0 : 0 ≤ s) (s1 : s ≤ 4294967295) (t0 : 0 ≤ t) (t1 : t ≤ 4294967295) (i0 : 0 ≤ i) (i1 : i ≤ 4294967295) (d0 : 0 ≤ d) (d1 : d < 32) (a0 : 0 ≤ a) (a1 : a < 32) (he : dec_Encode.f ⟨#[115, 108, 116, 117]⟩ x1 x2 d a i = some (v, true)) :
    ferryref09_Do.f 40 ⟨#[115, 108, 116, 117]⟩ x1 x2 d a i s t = some ((if s < t then 1 else 0), true) := by
  have hen := enc_eq 39 ⟨#[115, 108, 116, 117]⟩ ⟨x1, x2, d, a, i⟩ i0 i1
  dsimp only at hen
  have hsx : ferryref01_Sext.f 40 i 16 = some (sxOf i 16) := (ref_Sext_spec 39 i 16 i0 i1 (by decide) (by decide)).trans (swap_Sext_spec i 16 i0 i1 (by decide) (by decide))
  unfold ferryref09_Do.f
  rw [hen, he, Option.bind_some]
  dsimp only
  rw [if_pos rfl, rknown_sltu, Option.bind_some, if_pos rfl, hsx, Option.bind_some]
  rw [l_sltu, if_neg (by decide), if_neg (by decide), if_neg (by decide), if_neg (by decide), if_neg (by decide), if_neg (by decide), if_neg (by decide), if_neg (by decide), if_neg (by decide), if_neg (by decide), if_neg (by decide), if_neg (by decide), if_neg (by decide), if_neg (by decide), if_pos rfl]
  rw [bit_of]
  rfl
set_option maxHeartbeats 2000000 in
theorem rval_slti (x1 x2 d a i s t v : Int) (s0 : 0 ≤ s) (s1 : s ≤ 4294967295) (t0 : 0 ≤ t) (t1 : t ≤ 4294967295) (i0 : 0 ≤ i) (i1 : i ≤ 4294967295) (d0 : 0 ≤ d) (d1 : d < 32) (a0 : 0 ≤ a) (a1 : a < 32) (he : dec_Encode.f ⟨#[115, 108, 116, 105]⟩ x1 x2 d a i = some (v, true)) :
    ferryref09_Do.f 40 ⟨#[115, 108, 116, 105]⟩ x1 x2 d a i s t = some ((if wrap32 s < wrap32 (sxOf i 16) then 1 else 0), true) := by
  have hen := enc_eq 39 ⟨#[115, 108, 116, 105]⟩ ⟨x1, x2, d, a, i⟩ i0 i1
  dsimp only at hen
  have hsx : ferryref01_Sext.f 40 i 16 = some (sxOf i 16) := (ref_Sext_spec 39 i 16 i0 i1 (by decide) (by decide)).trans (swap_Sext_spec i 16 i0 i1 (by decide) (by decide))
  unfold ferryref09_Do.f
  rw [hen, he, Option.bind_some]
  dsimp only
  rw [if_pos rfl, rknown_slti, Option.bind_some, if_pos rfl, hsx, Option.bind_some]
  rw [l_slti, if_neg (by decide), if_neg (by decide), if_neg (by decide), if_neg (by decide), if_neg (by decide), if_neg (by decide), if_neg (by decide), if_neg (by decide), if_neg (by decide), if_neg (by decide), if_neg (by decide), if_neg (by decide), if_neg (by decide), if_neg (by decide), if_neg (by decide), if_pos rfl]
  rw [ref_less s0 s1 (sx16 i0 i1).1 (sx16 i0 i1).2, Option.bind_some, bit_of]
  rfl
set_option maxHeartbeats 2000000 in
theorem rval_sltiu (x1 x2 d a i s t v : Int) (s0 : 0 ≤ s) (s1 : s ≤ 4294967295) (t0 : 0 ≤ t) (t1 : t ≤ 4294967295) (i0 : 0 ≤ i) (i1 : i ≤ 4294967295) (d0 : 0 ≤ d) (d1 : d < 32) (a0 : 0 ≤ a) (a1 : a < 32) (he : dec_Encode.f ⟨#[115, 108, 116, 105, 117]⟩ x1 x2 d a i = some (v, true)) :
    ferryref09_Do.f 40 ⟨#[115, 108, 116, 105, 117]⟩ x1 x2 d a i s t = some ((if s < sxOf i 16 then 1 else 0), true) := by
  have hen := enc_eq 39 ⟨#[115, 108, 116, 105, 117]⟩ ⟨x1, x2, d, a, i⟩ i0 i1
  dsimp only at hen
  have hsx : ferryref01_Sext.f 40 i 16 = some (sxOf i 16) := (ref_Sext_spec 39 i 16 i0 i1 (by decide) (by decide)).trans (swap_Sext_spec i 16 i0 i1 (by decide) (by decide))
  unfold ferryref09_Do.f
  rw [hen, he, Option.bind_some]
  dsimp only
  rw [if_pos rfl, rknown_sltiu, Option.bind_some, if_pos rfl, hsx, Option.bind_some]
  rw [l_sltiu, if_neg (by decide), if_neg (by decide), if_neg (by decide), if_neg (by decide), if_neg (by decide), if_neg (by decide), if_neg (by decide), if_neg (by decide), if_neg (by decide), if_neg (by decide), if_neg (by decide), if_neg (by decide), if_neg (by decide), if_neg (by decide), if_neg (by decide), if_neg (by decide), if_pos rfl]
  rw [bit_of]
  rfl
set_option maxHeartbeats 2000000 in
theorem rval_lui (x1 x2 d a i s t v : Int) (s0 : 0 ≤ s) (s1 : s ≤ 4294967295) (t0 : 0 ≤ t) (t1 : t ≤ 4294967295) (i0 : 0 ≤ i) (i1 : i ≤ 4294967295) (d0 : 0 ≤ d) (d1 : d < 32) (a0 : 0 ≤ a) (a1 : a < 32) (he : dec_Encode.f ⟨#[108, 117, 105]⟩ x1 x2 d a i = some (v, true)) :
    ferryref09_Do.f 40 ⟨#[108, 117, 105]⟩ x1 x2 d a i s t = some (i * 65536 % 4294967296, true) := by
  have hen := enc_eq 39 ⟨#[108, 117, 105]⟩ ⟨x1, x2, d, a, i⟩ i0 i1
  dsimp only at hen
  have hsx : ferryref01_Sext.f 40 i 16 = some (sxOf i 16) := (ref_Sext_spec 39 i 16 i0 i1 (by decide) (by decide)).trans (swap_Sext_spec i 16 i0 i1 (by decide) (by decide))
  unfold ferryref09_Do.f
  rw [hen, he, Option.bind_some]
  dsimp only
  rw [if_pos rfl, rknown_lui, Option.bind_some, if_pos rfl, hsx, Option.bind_some]
  rw [l_lui, if_neg (by decide), if_neg (by decide), if_neg (by decide), if_neg (by decide), if_neg (by decide), if_neg (by decide), if_neg (by decide), if_neg (by decide), if_neg (by decide), if_neg (by decide), if_neg (by decide), if_neg (by decide), if_neg (by decide), if_neg (by decide), if_neg (by decide), if_neg (by decide), if_neg (by decide), if_pos rfl]
set_option maxHeartbeats 2000000 in
theorem rval_sll (x1 x2 d a i s t v : Int) (s0 : 0 ≤ s) (s1 : s ≤ 4294967295) (t0 : 0 ≤ t) (t1 : t ≤ 4294967295) (i0 : 0 ≤ i) (i1 : i ≤ 4294967295) (d0 : 0 ≤ d) (d1 : d < 32) (a0 : 0 ≤ a) (a1 : a < 32) (he : dec_Encode.f ⟨#[115, 108, 108]⟩ x1 x2 d a i = some (v, true)) :
    ferryref09_Do.f 40 ⟨#[115, 108, 108]⟩ x1 x2 d a i s t = some (t * 2 ^ a.toNat % 4294967296, true) := by
  have hen := enc_eq 39 ⟨#[115, 108, 108]⟩ ⟨x1, x2, d, a, i⟩ i0 i1
  dsimp only at hen
  have hsx : ferryref01_Sext.f 40 i 16 = some (sxOf i 16) := (ref_Sext_spec 39 i 16 i0 i1 (by decide) (by decide)).trans (swap_Sext_spec i 16 i0 i1 (by decide) (by decide))
  unfold ferryref09_Do.f
  rw [hen, he, Option.bind_some]
  dsimp only
  rw [if_pos rfl, rknown_sll, Option.bind_some, if_pos rfl, hsx, Option.bind_some]
  rw [l_sll, if_neg (by decide), if_neg (by decide), if_neg (by decide), if_neg (by decide), if_neg (by decide), if_neg (by decide), if_neg (by decide), if_neg (by decide), if_neg (by decide), if_neg (by decide), if_neg (by decide), if_neg (by decide), if_neg (by decide), if_neg (by decide), if_neg (by decide), if_neg (by decide), if_neg (by decide), if_neg (by decide)]
  have hs : ferryref09_shifts.f 40 ⟨#[115, 108, 108]⟩ x1 x2 d a i s t = some (t * 2 ^ a.toNat % 4294967296) := by
    unfold ferryref09_shifts.f
    rw [l_sll, if_pos rfl]
    have ew : IntKind.u64.wrap a = ((a.toNat : Nat) : Int) := by rw [u64w]; omega
    rw [ew]
    generalize hk : a.toNat = k
    have hk1 : k < 32 := by omega
    rw [if_pos (by omega), shl32 _ _ (by omega)]
  rw [hs]
  rfl
set_option maxHeartbeats 2000000 in
theorem rval_srl (x1 x2 d a i s t v : Int) (s0 : 0 ≤ s) (s1 : s ≤ 4294967295) (t0 : 0 ≤ t) (t1 : t ≤ 4294967295) (i0 : 0 ≤ i) (i1 : i ≤ 4294967295) (d0 : 0 ≤ d) (d1 : d < 32) (a0 : 0 ≤ a) (a1 : a < 32) (he : dec_Encode.f ⟨#[115, 114, 108]⟩ x1 x2 d a i = some (v, true)) :
    ferryref09_Do.f 40 ⟨#[115, 114, 108]⟩ x1 x2 d a i s t = some (t / 2 ^ a.toNat, true) := by
  have hen := enc_eq 39 ⟨#[115, 114, 108]⟩ ⟨x1, x2, d, a, i⟩ i0 i1
  dsimp only at hen
  have hsx : ferryref01_Sext.f 40 i 16 = some (sxOf i 16) := (ref_Sext_spec 39 i 16 i0 i1 (by decide) (by decide)).trans (swap_Sext_spec i 16 i0 i1 (by decide) (by decide))
  unfold ferryref09_Do.f
  rw [hen, he, Option.bind_some]
  dsimp only
  rw [if_pos rfl, rknown_srl, Option.bind_some, if_pos rfl, hsx, Option.bind_some]
  rw [l_srl, if_neg (by decide), if_neg (by decide), if_neg (by decide), if_neg (by decide), if_neg (by decide), if_neg (by decide), if_neg (by decide), if_neg (by decide), if_neg (by decide), if_neg (by decide), if_neg (by decide), if_neg (by decide), if_neg (by decide), if_neg (by decide), if_neg (by decide), if_neg (by decide), if_neg (by decide), if_neg (by decide)]
  have hs : ferryref09_shifts.f 40 ⟨#[115, 114, 108]⟩ x1 x2 d a i s t = some (t / 2 ^ a.toNat) := by
    unfold ferryref09_shifts.f
    rw [l_srl, if_neg (by decide), if_pos rfl]
    have ew : IntKind.u64.wrap a = ((a.toNat : Nat) : Int) := by rw [u64w]; omega
    rw [ew]
    generalize hk : a.toNat = k
    have hk1 : k < 32 := by omega
    rw [if_pos (by omega), shr32 _ rfl _ _ (by omega)]
  rw [hs]
  rfl
set_option maxHeartbeats 2000000 in
theorem rval_sra (x1 x2 d a i s t v : Int) (s0 : 0 ≤ s) (s1 : s ≤ 4294967295) (t0 : 0 ≤ t) (t1 : t ≤ 4294967295) (i0 : 0 ≤ i) (i1 : i ≤ 4294967295) (d0 : 0 ≤ d) (d1 : d < 32) (a0 : 0 ≤ a) (a1 : a < 32) (he : dec_Encode.f ⟨#[115, 114, 97]⟩ x1 x2 d a i = some (v, true)) :
    ferryref09_Do.f 40 ⟨#[115, 114, 97]⟩ x1 x2 d a i s t = some (wrap32 t / 2 ^ a.toNat % 4294967296, true) := by
  have hen := enc_eq 39 ⟨#[115, 114, 97]⟩ ⟨x1, x2, d, a, i⟩ i0 i1
  dsimp only at hen
  have hsx : ferryref01_Sext.f 40 i 16 = some (sxOf i 16) := (ref_Sext_spec 39 i 16 i0 i1 (by decide) (by decide)).trans (swap_Sext_spec i 16 i0 i1 (by decide) (by decide))
  unfold ferryref09_Do.f
  rw [hen, he, Option.bind_some]
  dsimp only
  rw [if_pos rfl, rknown_sra, Option.bind_some, if_pos rfl, hsx, Option.bind_some]
  rw [l_sra, if_neg (by decide), if_neg (by decide), if_neg (by decide), if_neg (by decide), if_neg (by decide), if_neg (by decide), if_neg (by decide), if_neg (by decide), if_neg (by decide), if_neg (by decide), if_neg (by decide), if_neg (by decide), if_neg (by decide), if_neg (by decide), if_neg (by decide), if_neg (by decide), if_neg (by decide), if_neg (by decide)]
  have hs : ferryref09_shifts.f 40 ⟨#[115, 114, 97]⟩ x1 x2 d a i s t = some (wrap32 t / 2 ^ a.toNat % 4294967296) := by
    unfold ferryref09_shifts.f
    rw [l_sra, if_neg (by decide), if_neg (by decide), if_pos rfl]
    have ew : IntKind.u64.wrap a = ((a.toNat : Nat) : Int) := by rw [u64w]; omega
    rw [ew]
    generalize hk : a.toNat = k
    have hk1 : k < 32 := by omega
    rw [right_of t k hk1]
  rw [hs]
  rfl
set_option maxHeartbeats 2000000 in
theorem rval_sllv (x1 x2 d a i s t v : Int) (s0 : 0 ≤ s) (s1 : s ≤ 4294967295) (t0 : 0 ≤ t) (t1 : t ≤ 4294967295) (i0 : 0 ≤ i) (i1 : i ≤ 4294967295) (d0 : 0 ≤ d) (d1 : d < 32) (a0 : 0 ≤ a) (a1 : a < 32) (he : dec_Encode.f ⟨#[115, 108, 108, 118]⟩ x1 x2 d a i = some (v, true)) :
    ferryref09_Do.f 40 ⟨#[115, 108, 108, 118]⟩ x1 x2 d a i s t = some (t * 2 ^ (s % 32).toNat % 4294967296, true) := by
  have hen := enc_eq 39 ⟨#[115, 108, 108, 118]⟩ ⟨x1, x2, d, a, i⟩ i0 i1
  dsimp only at hen
  have hsx : ferryref01_Sext.f 40 i 16 = some (sxOf i 16) := (ref_Sext_spec 39 i 16 i0 i1 (by decide) (by decide)).trans (swap_Sext_spec i 16 i0 i1 (by decide) (by decide))
  unfold ferryref09_Do.f
  rw [hen, he, Option.bind_some]
  dsimp only
  rw [if_pos rfl, rknown_sllv, Option.bind_some, if_pos rfl, hsx, Option.bind_some]
  rw [l_sllv, if_neg (by decide), if_neg (by decide), if_neg (by decide), if_neg (by decide), if_neg (by decide), if_neg (by decide), if_neg (by decide), if_neg (by decide), if_neg (by decide), if_neg (by decide), if_neg (by decide), if_neg (by decide), if_neg (by decide), if_neg (by decide), if_neg (by decide), if_neg (by decide), if_neg (by decide), if_neg (by decide)]
  have hs : ferryref09_shifts.f 40 ⟨#[115, 108, 108, 118]⟩ x1 x2 d a i s t = some (t * 2 ^ (s % 32).toNat % 4294967296) := by
    unfold ferryref09_shifts.f
    rw [l_sllv, if_neg (by decide), if_neg (by decide), if_neg (by decide), if_pos rfl]
    rw [tm32 s0 s1]
    generalize hk : (s % 32).toNat = k
    have hk1 : k < 32 := by omega
    rw [if_pos (by omega), shl32 _ _ (by omega)]
  rw [hs]
  rfl
set_option maxHeartbeats 2000000 in
theorem rval_srlv (x1 x2 d a i s t v : Int) (s0 : 0 ≤ s) (s1 : s ≤ 4294967295) (t0 : 0 ≤ t) (t1 : t ≤ 4294967295) (i0 : 0 ≤ i) (i1 : i ≤ 4294967295) (d0 : 0 ≤ d) (d1 : d < 32) (a0 : 0 ≤ a) (a1 : a < 32) (he : dec_Encode.f ⟨#[115, 114, 108, 118]⟩ x1 x2 d a i = some (v, true)) :
    ferryref09_Do.f 40 ⟨#[115, 114, 108, 118]⟩ x1 x2 d a i s t = some (t / 2 ^ (s % 32).toNat, true) := by
  have hen := enc_eq 39 ⟨#[115, 114, 108, 118]⟩ ⟨x1, x2, d, a, i⟩ i0 i1
  dsimp only at hen
  have hsx : ferryref01_Sext.f 40 i 16 = some (sxOf i 16) := (ref_Sext_spec 39 i 16 i0 i1 (by decide) (by decide)).trans (swap_Sext_spec i 16 i0 i1 (by decide) (by decide))
  unfold ferryref09_Do.f
  rw [hen, he, Option.bind_some]
  dsimp only
  rw [if_pos rfl, rknown_srlv, Option.bind_some, if_pos rfl, hsx, Option.bind_some]
  rw [l_srlv, if_neg (by decide), if_neg (by decide), if_neg (by decide), if_neg (by decide), if_neg (by decide), if_neg (by decide), if_neg (by decide), if_neg (by decide), if_neg (by decide), if_neg (by decide), if_neg (by decide), if_neg (by decide), if_neg (by decide), if_neg (by decide), if_neg (by decide), if_neg (by decide), if_neg (by decide), if_neg (by decide)]
  have hs : ferryref09_shifts.f 40 ⟨#[115, 114, 108, 118]⟩ x1 x2 d a i s t = some (t / 2 ^ (s % 32).toNat) := by
    unfold ferryref09_shifts.f
    rw [l_srlv, if_neg (by decide), if_neg (by decide), if_neg (by decide), if_neg (by decide), if_pos rfl]
    rw [tm32 s0 s1]
    generalize hk : (s % 32).toNat = k
    have hk1 : k < 32 := by omega
    rw [if_pos (by omega), shr32 _ rfl _ _ (by omega)]
  rw [hs]
  rfl
set_option maxHeartbeats 2000000 in
theorem rval_srav (x1 x2 d a i s t v : Int) (s0 : 0 ≤ s) (s1 : s ≤ 4294967295) (t0 : 0 ≤ t) (t1 : t ≤ 4294967295) (i0 : 0 ≤ i) (i1 : i ≤ 4294967295) (d0 : 0 ≤ d) (d1 : d < 32) (a0 : 0 ≤ a) (a1 : a < 32) (he : dec_Encode.f ⟨#[115, 114, 97, 118]⟩ x1 x2 d a i = some (v, true)) :
    ferryref09_Do.f 40 ⟨#[115, 114, 97, 118]⟩ x1 x2 d a i s t = some (wrap32 t / 2 ^ (s % 32).toNat % 4294967296, true) := by
  have hen := enc_eq 39 ⟨#[115, 114, 97, 118]⟩ ⟨x1, x2, d, a, i⟩ i0 i1
  dsimp only at hen
  have hsx : ferryref01_Sext.f 40 i 16 = some (sxOf i 16) := (ref_Sext_spec 39 i 16 i0 i1 (by decide) (by decide)).trans (swap_Sext_spec i 16 i0 i1 (by decide) (by decide))
  unfold ferryref09_Do.f
  rw [hen, he, Option.bind_some]
  dsimp only
  rw [if_pos rfl, rknown_srav, Option.bind_some, if_pos rfl, hsx, Option.bind_some]
  rw [l_srav, if_neg (by decide), if_neg (by decide), if_neg (by decide), if_neg (by decide), if_neg (by decide), if_neg (by decide), if_neg (by decide), if_neg (by decide), if_neg (by decide), if_neg (by decide), if_neg (by decide), if_neg (by decide), if_neg (by decide), if_neg (by decide), if_neg (by decide), if_neg (by decide), if_neg (by decide), if_neg (by decide)]
  have hs : ferryref09_shifts.f 40 ⟨#[115, 114, 97, 118]⟩ x1 x2 d a i s t = some (wrap32 t / 2 ^ (s % 32).toNat % 4294967296) := by
    unfold ferryref09_shifts.f
    rw [l_srav, if_neg (by decide), if_neg (by decide), if_neg (by decide), if_neg (by decide), if_neg (by decide), if_pos rfl]
    rw [tm32 s0 s1]
    generalize hk : (s % 32).toNat = k
    have hk1 : k < 32 := by omega
    rw [right_of t k hk1]
  rw [hs]
  rfl
set_option maxHeartbeats 2000000 in
theorem rval_rotr (x1 x2 d a i s t v : Int) (s0 : 0 ≤ s) (s1 : s ≤ 4294967295) (t0 : 0 ≤ t) (t1 : t ≤ 4294967295) (i0 : 0 ≤ i) (i1 : i ≤ 4294967295) (d0 : 0 ≤ d) (d1 : d < 32) (a0 : 0 ≤ a) (a1 : a < 32) (he : dec_Encode.f ⟨#[114, 111, 116, 114]⟩ x1 x2 d a i = some (v, true)) :
    ferryref09_Do.f 40 ⟨#[114, 111, 116, 114]⟩ x1 x2 d a i s t = some (rotOf t a.toNat, true) := by
  have hen := enc_eq 39 ⟨#[114, 111, 116, 114]⟩ ⟨x1, x2, d, a, i⟩ i0 i1
  dsimp only at hen
  have hsx : ferryref01_Sext.f 40 i 16 = some (sxOf i 16) := (ref_Sext_spec 39 i 16 i0 i1 (by decide) (by decide)).trans (swap_Sext_spec i 16 i0 i1 (by decide) (by decide))
  unfold ferryref09_Do.f
  rw [hen, he, Option.bind_some]
  dsimp only
  rw [if_pos rfl, rknown_rotr, Option.bind_some, if_pos rfl, hsx, Option.bind_some]
  rw [l_rotr, if_neg (by decide), if_neg (by decide), if_neg (by decide), if_neg (by decide), if_neg (by decide), if_neg (by decide), if_neg (by decide), if_neg (by decide), if_neg (by decide), if_neg (by decide), if_neg (by decide), if_neg (by decide), if_neg (by decide), if_neg (by decide), if_neg (by decide), if_neg (by decide), if_neg (by decide), if_neg (by decide)]
  have hs : ferryref09_shifts.f 40 ⟨#[114, 111, 116, 114]⟩ x1 x2 d a i s t = some (rotOf t a.toNat) := by
    unfold ferryref09_shifts.f
    rw [l_rotr, if_neg (by decide), if_neg (by decide), if_neg (by decide), if_neg (by decide), if_neg (by decide), if_neg (by decide), if_pos rfl]
    rw [ref_Rot_spec t a t0 t1, swap_Rot_spec t a t0 t1, show (a % 32).toNat = a.toNat from by omega]
  rw [hs]
  rfl
set_option maxHeartbeats 2000000 in
theorem rval_rotrv (x1 x2 d a i s t v : Int) (s0 : 0 ≤ s) (s1 : s ≤ 4294967295) (t0 : 0 ≤ t) (t1 : t ≤ 4294967295) (i0 : 0 ≤ i) (i1 : i ≤ 4294967295) (d0 : 0 ≤ d) (d1 : d < 32) (a0 : 0 ≤ a) (a1 : a < 32) (he : dec_Encode.f ⟨#[114, 111, 116, 114, 118]⟩ x1 x2 d a i = some (v, true)) :
    ferryref09_Do.f 40 ⟨#[114, 111, 116, 114, 118]⟩ x1 x2 d a i s t = some (rotOf t (s % 32).toNat, true) := by
  have hen := enc_eq 39 ⟨#[114, 111, 116, 114, 118]⟩ ⟨x1, x2, d, a, i⟩ i0 i1
  dsimp only at hen
  have hsx : ferryref01_Sext.f 40 i 16 = some (sxOf i 16) := (ref_Sext_spec 39 i 16 i0 i1 (by decide) (by decide)).trans (swap_Sext_spec i 16 i0 i1 (by decide) (by decide))
  unfold ferryref09_Do.f
  rw [hen, he, Option.bind_some]
  dsimp only
  rw [if_pos rfl, rknown_rotrv, Option.bind_some, if_pos rfl, hsx, Option.bind_some]
  rw [l_rotrv, if_neg (by decide), if_neg (by decide), if_neg (by decide), if_neg (by decide), if_neg (by decide), if_neg (by decide), if_neg (by decide), if_neg (by decide), if_neg (by decide), if_neg (by decide), if_neg (by decide), if_neg (by decide), if_neg (by decide), if_neg (by decide), if_neg (by decide), if_neg (by decide), if_neg (by decide), if_neg (by decide)]
  have hs : ferryref09_shifts.f 40 ⟨#[114, 111, 116, 114, 118]⟩ x1 x2 d a i s t = some (rotOf t (s % 32).toNat) := by
    unfold ferryref09_shifts.f
    rw [l_rotrv, if_neg (by decide), if_neg (by decide), if_neg (by decide), if_neg (by decide), if_neg (by decide), if_neg (by decide), if_neg (by decide), if_pos rfl]
    rw [tm32 s0 s1]
    generalize hk : (s % 32).toNat = k
    have hk1 : k < 32 := by omega
    rw [ref_Rot_spec t _ t0 t1, swap_Rot_spec t _ t0 t1, show ((wrap64 (k : Int)) % 32).toNat = k from by rw [w64_id (by omega) (by omega)]; omega]
  rw [hs]
  rfl
set_option maxHeartbeats 2000000 in
theorem rval_mul (x1 x2 d a i s t v : Int) (s0 : 0 ≤ s) (s1 : s ≤ 4294967295) (t0 : 0 ≤ t) (t1 : t ≤ 4294967295) (i0 : 0 ≤ i) (i1 : i ≤ 4294967295) (d0 : 0 ≤ d) (d1 : d < 32) (a0 : 0 ≤ a) (a1 : a < 32) (he : dec_Encode.f ⟨#[109, 117, 108]⟩ x1 x2 d a i = some (v, true)) :
    ferryref09_Do.f 40 ⟨#[109, 117, 108]⟩ x1 x2 d a i s t = some (s * t % 4294967296, true) := by
  have hen := enc_eq 39 ⟨#[109, 117, 108]⟩ ⟨x1, x2, d, a, i⟩ i0 i1
  dsimp only at hen
  have hsx : ferryref01_Sext.f 40 i 16 = some (sxOf i 16) := (ref_Sext_spec 39 i 16 i0 i1 (by decide) (by decide)).trans (swap_Sext_spec i 16 i0 i1 (by decide) (by decide))
  unfold ferryref09_Do.f
  rw [hen, he, Option.bind_some]
  dsimp only
  rw [if_pos rfl, rknown_mul, Option.bind_some, if_pos rfl, hsx, Option.bind_some]
  rw [l_mul, if_neg (by decide), if_neg (by decide), if_neg (by decide), if_neg (by decide), if_neg (by decide), if_neg (by decide), if_neg (by decide), if_neg (by decide), if_neg (by decide), if_neg (by decide), if_neg (by decide), if_neg (by decide), if_neg (by decide), if_neg (by decide), if_neg (by decide), if_neg (by decide), if_neg (by decide), if_neg (by decide)]
  have hs : ferryref09_shifts.f 40 ⟨#[109, 117, 108]⟩ x1 x2 d a i s t = some (s * t % 4294967296) := by
    unfold ferryref09_shifts.f
    rw [l_mul, if_neg (by decide), if_neg (by decide), if_neg (by decide), if_neg (by decide), if_neg (by decide), if_neg (by decide), if_neg (by decide), if_neg (by decide)]
    have hf : ferryref09_fields.f 40 ⟨#[109, 117, 108]⟩ x1 x2 d a i s t = some (s * t % 4294967296) := by
      unfold ferryref09_fields.f
      rw [l_mul, if_neg (by decide), if_neg (by decide), if_neg (by decide), if_neg (by decide), if_neg (by decide), if_neg (by decide), if_neg (by decide)]
    rw [hf]
  rw [hs]
  rfl
set_option maxHeartbeats 2000000 in
theorem rval_clz (x1 x2 d a i s t v : Int) (s0 : 0 ≤ s) (s1 : s ≤ 4294967295) (t0 : 0 ≤ t) (t1 : t ≤ 4294967295) (i0 : 0 ≤ i) (i1 : i ≤ 4294967295) (d0 : 0 ≤ d) (d1 : d < 32) (a0 : 0 ≤ a) (a1 : a < 32) (he : dec_Encode.f ⟨#[99, 108, 122]⟩ x1 x2 d a i = some (v, true)) :
    ferryref09_Do.f 40 ⟨#[99, 108, 122]⟩ x1 x2 d a i s t = some (32 - (Lib.bitLen s.toNat : Int), true) := by
  have hen := enc_eq 39 ⟨#[99, 108, 122]⟩ ⟨x1, x2, d, a, i⟩ i0 i1
  dsimp only at hen
  have hsx : ferryref01_Sext.f 40 i 16 = some (sxOf i 16) := (ref_Sext_spec 39 i 16 i0 i1 (by decide) (by decide)).trans (swap_Sext_spec i 16 i0 i1 (by decide) (by decide))
  unfold ferryref09_Do.f
  rw [hen, he, Option.bind_some]
  dsimp only
  rw [if_pos rfl, rknown_clz, Option.bind_some, if_pos rfl, hsx, Option.bind_some]
  rw [l_clz, if_neg (by decide), if_neg (by decide), if_neg (by decide), if_neg (by decide), if_neg (by decide), if_neg (by decide), if_neg (by decide), if_neg (by decide), if_neg (by decide), if_neg (by decide), if_neg (by decide), if_neg (by decide), if_neg (by decide), if_neg (by decide), if_neg (by decide), if_neg (by decide), if_neg (by decide), if_neg (by decide)]
  have hs : ferryref09_shifts.f 40 ⟨#[99, 108, 122]⟩ x1 x2 d a i s t = some (32 - (Lib.bitLen s.toNat : Int)) := by
    unfold ferryref09_shifts.f
    rw [l_clz, if_neg (by decide), if_neg (by decide), if_neg (by decide), if_neg (by decide), if_neg (by decide), if_neg (by decide), if_neg (by decide), if_neg (by decide)]
    have hf : ferryref09_fields.f 40 ⟨#[99, 108, 122]⟩ x1 x2 d a i s t = some (32 - (Lib.bitLen s.toNat : Int)) := by
      unfold ferryref09_fields.f
      rw [l_clz, if_neg (by decide), if_neg (by decide), if_neg (by decide), if_neg (by decide), if_neg (by decide), if_pos rfl]
      rw [lead_zero s s0 s1 40 (by decide)]
    rw [hf]
  rw [hs]
  rfl
set_option maxHeartbeats 2000000 in
theorem rval_clo (x1 x2 d a i s t v : Int) (s0 : 0 ≤ s) (s1 : s ≤ 4294967295) (t0 : 0 ≤ t) (t1 : t ≤ 4294967295) (i0 : 0 ≤ i) (i1 : i ≤ 4294967295) (d0 : 0 ≤ d) (d1 : d < 32) (a0 : 0 ≤ a) (a1 : a < 32) (he : dec_Encode.f ⟨#[99, 108, 111]⟩ x1 x2 d a i = some (v, true)) :
    ferryref09_Do.f 40 ⟨#[99, 108, 111]⟩ x1 x2 d a i s t = some (32 - (Lib.bitLen (4294967295 - s).toNat : Int), true) := by
  have hen := enc_eq 39 ⟨#[99, 108, 111]⟩ ⟨x1, x2, d, a, i⟩ i0 i1
  dsimp only at hen
  have hsx : ferryref01_Sext.f 40 i 16 = some (sxOf i 16) := (ref_Sext_spec 39 i 16 i0 i1 (by decide) (by decide)).trans (swap_Sext_spec i 16 i0 i1 (by decide) (by decide))
  unfold ferryref09_Do.f
  rw [hen, he, Option.bind_some]
  dsimp only
  rw [if_pos rfl, rknown_clo, Option.bind_some, if_pos rfl, hsx, Option.bind_some]
  rw [l_clo, if_neg (by decide), if_neg (by decide), if_neg (by decide), if_neg (by decide), if_neg (by decide), if_neg (by decide), if_neg (by decide), if_neg (by decide), if_neg (by decide), if_neg (by decide), if_neg (by decide), if_neg (by decide), if_neg (by decide), if_neg (by decide), if_neg (by decide), if_neg (by decide), if_neg (by decide), if_neg (by decide)]
  have hs : ferryref09_shifts.f 40 ⟨#[99, 108, 111]⟩ x1 x2 d a i s t = some (32 - (Lib.bitLen (4294967295 - s).toNat : Int)) := by
    unfold ferryref09_shifts.f
    rw [l_clo, if_neg (by decide), if_neg (by decide), if_neg (by decide), if_neg (by decide), if_neg (by decide), if_neg (by decide), if_neg (by decide), if_neg (by decide)]
    have hf : ferryref09_fields.f 40 ⟨#[99, 108, 111]⟩ x1 x2 d a i s t = some (32 - (Lib.bitLen (4294967295 - s).toNat : Int)) := by
      unfold ferryref09_fields.f
      rw [l_clo, if_neg (by decide), if_neg (by decide), if_neg (by decide), if_neg (by decide), if_neg (by decide), if_neg (by decide), if_pos rfl]
      rw [lead_one s s0 s1 40 (by decide)]
    rw [hf]
  rw [hs]
  rfl
set_option maxHeartbeats 2000000 in
theorem rval_ext (x1 x2 d a i s t v : Int) (s0 : 0 ≤ s) (s1 : s ≤ 4294967295) (t0 : 0 ≤ t) (t1 : t ≤ 4294967295) (i0 : 0 ≤ i) (i1 : i ≤ 4294967295) (d0 : 0 ≤ d) (d1 : d < 32) (a0 : 0 ≤ a) (a1 : a < 32) (he : dec_Encode.f ⟨#[101, 120, 116]⟩ x1 x2 d a i = some (v, true)) :
    ferryref09_Do.f 40 ⟨#[101, 120, 116]⟩ x1 x2 d a i s t = some (Go.bits .and .u32 (s / 2 ^ a.toNat) (2 ^ (d + 1).toNat - 1), true) := by
  have hen := enc_eq 39 ⟨#[101, 120, 116]⟩ ⟨x1, x2, d, a, i⟩ i0 i1
  dsimp only at hen
  have hsx : ferryref01_Sext.f 40 i 16 = some (sxOf i 16) := (ref_Sext_spec 39 i 16 i0 i1 (by decide) (by decide)).trans (swap_Sext_spec i 16 i0 i1 (by decide) (by decide))
  unfold ferryref09_Do.f
  rw [hen, he, Option.bind_some]
  dsimp only
  rw [if_pos rfl, rknown_ext, Option.bind_some, if_pos rfl, hsx, Option.bind_some]
  rw [l_ext, if_neg (by decide), if_neg (by decide), if_neg (by decide), if_neg (by decide), if_neg (by decide), if_neg (by decide), if_neg (by decide), if_neg (by decide), if_neg (by decide), if_neg (by decide), if_neg (by decide), if_neg (by decide), if_neg (by decide), if_neg (by decide), if_neg (by decide), if_neg (by decide), if_neg (by decide), if_neg (by decide)]
  have hs : ferryref09_shifts.f 40 ⟨#[101, 120, 116]⟩ x1 x2 d a i s t = some (Go.bits .and .u32 (s / 2 ^ a.toNat) (2 ^ (d + 1).toNat - 1)) := by
    unfold ferryref09_shifts.f
    rw [l_ext, if_neg (by decide), if_neg (by decide), if_neg (by decide), if_neg (by decide), if_neg (by decide), if_neg (by decide), if_neg (by decide), if_neg (by decide)]
    have hf : ferryref09_fields.f 40 ⟨#[101, 120, 116]⟩ x1 x2 d a i s t = some (Go.bits .and .u32 (s / 2 ^ a.toNat) (2 ^ (d + 1).toNat - 1)) := by
      unfold ferryref09_fields.f
      rw [l_ext, if_pos rfl]
      have ew : IntKind.u64.wrap a = ((a.toNat : Nat) : Int) := by rw [u64w]; omega
      rw [ew]
      have e : wrap64 (d + 1) = ((d + 1).toNat : Int) := by rw [w64_id (by omega) (by omega)]; omega
      rw [if_pos (by omega), e, mask_of _ (by omega), Option.bind_some, shr32 _ rfl _ _ (by omega)]
    rw [hf]
  rw [hs]
  rfl
set_option maxHeartbeats 2000000 in
theorem rval_ins (x1 x2 d a i s t v : Int) (s0 : 0 ≤ s) (s1 : s ≤ 4294967295) (t0 : 0 ≤ t) (t1 : t ≤ 4294967295) (i0 : 0 ≤ i) (i1 : i ≤ 4294967295) (d0 : 0 ≤ d) (d1 : d < 32) (a0 : 0 ≤ a) (a1 : a < 32) (hda : a ≤ d) (he : dec_Encode.f ⟨#[105, 110, 115]⟩ x1 x2 d a i = some (v, true)) :
    ferryref09_Do.f 40 ⟨#[105, 110, 115]⟩ x1 x2 d a i s t = some (Go.bits .or .u32 (Go.bits .andNot .u32 t ((2 ^ (d + 1 - a).toNat - 1) * 2 ^ a.toNat % 4294967296)) (Go.bits .and .u32 (s * 2 ^ a.toNat % 4294967296) ((2 ^ (d + 1 - a).toNat - 1) * 2 ^ a.toNat % 4294967296)), true) := by
  have hen := enc_eq 39 ⟨#[105, 110, 115]⟩ ⟨x1, x2, d, a, i⟩ i0 i1
  dsimp only at hen
  have hsx : ferryref01_Sext.f 40 i 16 = some (sxOf i 16) := (ref_Sext_spec 39 i 16 i0 i1 (by decide) (by decide)).trans (swap_Sext_spec i 16 i0 i1 (by decide) (by decide))
  unfold ferryref09_Do.f
  rw [hen, he, Option.bind_some]
  dsimp only
  rw [if_pos rfl, rknown_ins, Option.bind_some, if_pos rfl, hsx, Option.bind_some]
  rw [l_ins, if_neg (by decide), if_neg (by decide), if_neg (by decide), if_neg (by decide), if_neg (by decide), if_neg (by decide), if_neg (by decide), if_neg (by decide), if_neg (by decide), if_neg (by decide), if_neg (by decide), if_neg (by decide), if_neg (by decide), if_neg (by decide), if_neg (by decide), if_neg (by decide), if_neg (by decide), if_neg (by decide)]
  have hs : ferryref09_shifts.f 40 ⟨#[105, 110, 115]⟩ x1 x2 d a i s t = some (Go.bits .or .u32 (Go.bits .andNot .u32 t ((2 ^ (d + 1 - a).toNat - 1) * 2 ^ a.toNat % 4294967296)) (Go.bits .and .u32 (s * 2 ^ a.toNat % 4294967296) ((2 ^ (d + 1 - a).toNat - 1) * 2 ^ a.toNat % 4294967296))) := by
    unfold ferryref09_shifts.f
    rw [l_ins, if_neg (by decide), if_neg (by decide), if_neg (by decide), if_neg (by decide), if_neg (by decide), if_neg (by decide), if_neg (by decide), if_neg (by decide)]
    have hf : ferryref09_fields.f 40 ⟨#[105, 110, 115]⟩ x1 x2 d a i s t = some (Go.bits .or .u32 (Go.bits .andNot .u32 t ((2 ^ (d + 1 - a).toNat - 1) * 2 ^ a.toNat % 4294967296)) (Go.bits .and .u32 (s * 2 ^ a.toNat % 4294967296) ((2 ^ (d + 1 - a).toNat - 1) * 2 ^ a.toNat % 4294967296))) := by
      unfold ferryref09_fields.f
      rw [l_ins, if_neg (by decide), if_pos rfl]
      have ew : IntKind.u64.wrap a = ((a.toNat : Nat) : Int) := by rw [u64w]; omega
      rw [ew]
      have e : wrap64 (wrap64 (d + 1) - a) = ((d + 1 - a).toNat : Int) := by rw [w64_id (n := d + 1) (by omega) (by omega), w64_id (by omega) (by omega)]; omega
      rw [e, mask_of _ (by omega), Option.bind_some, if_pos (by omega)]
      generalize (2 : Int) ^ (d + 1 - a).toNat - 1 = m
      rw [shl32 _ _ (by omega), shl32 _ _ (by omega)]
    rw [hf]
  rw [hs]
  rfl
set_option maxHeartbeats 2000000 in
theorem rval_wsbh (x1 x2 d a i s t v : Int) (s0 : 0 ≤ s) (s1 : s ≤ 4294967295) (t0 : 0 ≤ t) (t1 : t ≤ 4294967295) (i0 : 0 ≤ i) (i1 : i ≤ 4294967295) (d0 : 0 ≤ d) (d1 : d < 32) (a0 : 0 ≤ a) (a1 : a < 32) (he : dec_Encode.f ⟨#[119, 115, 98, 104]⟩ x1 x2 d a i = some (v, true)) :
    ferryref09_Do.f 40 ⟨#[119, 115, 98, 104]⟩ x1 x2 d a i s t = some (swOf t, true) := by
  have hen := enc_eq 39 ⟨#[119, 115, 98, 104]⟩ ⟨x1, x2, d, a, i⟩ i0 i1
  dsimp only at hen
  have hsx : ferryref01_Sext.f 40 i 16 = some (sxOf i 16) := (ref_Sext_spec 39 i 16 i0 i1 (by decide) (by decide)).trans (swap_Sext_spec i 16 i0 i1 (by decide) (by decide))
  unfold ferryref09_Do.f
  rw [hen, he, Option.bind_some]
  dsimp only
  rw [if_pos rfl, rknown_wsbh, Option.bind_some, if_pos rfl, hsx, Option.bind_some]
  rw [l_wsbh, if_neg (by decide), if_neg (by decide), if_neg (by decide), if_neg (by decide), if_neg (by decide), if_neg (by decide), if_neg (by decide), if_neg (by decide), if_neg (by decide), if_neg (by decide), if_neg (by decide), if_neg (by decide), if_neg (by decide), if_neg (by decide), if_neg (by decide), if_neg (by decide), if_neg (by decide), if_neg (by decide)]
  have hs : ferryref09_shifts.f 40 ⟨#[119, 115, 98, 104]⟩ x1 x2 d a i s t = some (swOf t) := by
    unfold ferryref09_shifts.f
    rw [l_wsbh, if_neg (by decide), if_neg (by decide), if_neg (by decide), if_neg (by decide), if_neg (by decide), if_neg (by decide), if_neg (by decide), if_neg (by decide)]
    have hf : ferryref09_fields.f 40 ⟨#[119, 115, 98, 104]⟩ x1 x2 d a i s t = some (swOf t) := by
      unfold ferryref09_fields.f
      rw [l_wsbh, if_neg (by decide), if_neg (by decide), if_pos rfl]
      rw [ref_wsbh t t0 t1]
    rw [hf]
  rw [hs]
  rfl
set_option maxHeartbeats 2000000 in
theorem rval_seb (x1 x2 d a i s t v : Int) (s0 : 0 ≤ s) (s1 : s ≤ 4294967295) (t0 : 0 ≤ t) (t1 : t ≤ 4294967295) (i0 : 0 ≤ i) (i1 : i ≤ 4294967295) (d0 : 0 ≤ d) (d1 : d < 32) (a0 : 0 ≤ a) (a1 : a < 32) (he : dec_Encode.f ⟨#[115, 101, 98]⟩ x1 x2 d a i = some (v, true)) :
    ferryref09_Do.f 40 ⟨#[115, 101, 98]⟩ x1 x2 d a i s t = some (sxOf t 8, true) := by
  have hen := enc_eq 39 ⟨#[115, 101, 98]⟩ ⟨x1, x2, d, a, i⟩ i0 i1
  dsimp only at hen
  have hsx : ferryref01_Sext.f 40 i 16 = some (sxOf i 16) := (ref_Sext_spec 39 i 16 i0 i1 (by decide) (by decide)).trans (swap_Sext_spec i 16 i0 i1 (by decide) (by decide))
  unfold ferryref09_Do.f
  rw [hen, he, Option.bind_some]
  dsimp only
  rw [if_pos rfl, rknown_seb, Option.bind_some, if_pos rfl, hsx, Option.bind_some]
  rw [l_seb, if_neg (by decide), if_neg (by decide), if_neg (by decide), if_neg (by decide), if_neg (by decide), if_neg (by decide), if_neg (by decide), if_neg (by decide), if_neg (by decide), if_neg (by decide), if_neg (by decide), if_neg (by decide), if_neg (by decide), if_neg (by decide), if_neg (by decide), if_neg (by decide), if_neg (by decide), if_neg (by decide)]
  have hs : ferryref09_shifts.f 40 ⟨#[115, 101, 98]⟩ x1 x2 d a i s t = some (sxOf t 8) := by
    unfold ferryref09_shifts.f
    rw [l_seb, if_neg (by decide), if_neg (by decide), if_neg (by decide), if_neg (by decide), if_neg (by decide), if_neg (by decide), if_neg (by decide), if_neg (by decide)]
    have hf : ferryref09_fields.f 40 ⟨#[115, 101, 98]⟩ x1 x2 d a i s t = some (sxOf t 8) := by
      unfold ferryref09_fields.f
      rw [l_seb, if_neg (by decide), if_neg (by decide), if_neg (by decide), if_pos rfl]
      rw [ref_Sext_spec 39 t 8 t0 t1 (by decide) (by decide), show (8 : Int) = ((8 : Nat) : Int) from rfl, swap_Sext_spec t 8 t0 t1 (by decide) (by decide)]
    rw [hf]
  rw [hs]
  rfl
set_option maxHeartbeats 2000000 in
theorem rval_seh (x1 x2 d a i s t v : Int) (s0 : 0 ≤ s) (s1 : s ≤ 4294967295) (t0 : 0 ≤ t) (t1 : t ≤ 4294967295) (i0 : 0 ≤ i) (i1 : i ≤ 4294967295) (d0 : 0 ≤ d) (d1 : d < 32) (a0 : 0 ≤ a) (a1 : a < 32) (he : dec_Encode.f ⟨#[115, 101, 104]⟩ x1 x2 d a i = some (v, true)) :
    ferryref09_Do.f 40 ⟨#[115, 101, 104]⟩ x1 x2 d a i s t = some (sxOf t 16, true) := by
  have hen := enc_eq 39 ⟨#[115, 101, 104]⟩ ⟨x1, x2, d, a, i⟩ i0 i1
  dsimp only at hen
  have hsx : ferryref01_Sext.f 40 i 16 = some (sxOf i 16) := (ref_Sext_spec 39 i 16 i0 i1 (by decide) (by decide)).trans (swap_Sext_spec i 16 i0 i1 (by decide) (by decide))
  unfold ferryref09_Do.f
  rw [hen, he, Option.bind_some]
  dsimp only
  rw [if_pos rfl, rknown_seh, Option.bind_some, if_pos rfl, hsx, Option.bind_some]
  rw [l_seh, if_neg (by decide), if_neg (by decide), if_neg (by decide), if_neg (by decide), if_neg (by decide), if_neg (by decide), if_neg (by decide), if_neg (by decide), if_neg (by decide), if_neg (by decide), if_neg (by decide), if_neg (by decide), if_neg (by decide), if_neg (by decide), if_neg (by decide), if_neg (by decide), if_neg (by decide), if_neg (by decide)]
  have hs : ferryref09_shifts.f 40 ⟨#[115, 101, 104]⟩ x1 x2 d a i s t = some (sxOf t 16) := by
    unfold ferryref09_shifts.f
    rw [l_seh, if_neg (by decide), if_neg (by decide), if_neg (by decide), if_neg (by decide), if_neg (by decide), if_neg (by decide), if_neg (by decide), if_neg (by decide)]
    have hf : ferryref09_fields.f 40 ⟨#[115, 101, 104]⟩ x1 x2 d a i s t = some (sxOf t 16) := by
      unfold ferryref09_fields.f
      rw [l_seh, if_neg (by decide), if_neg (by decide), if_neg (by decide), if_neg (by decide), if_pos rfl]
      rw [ref_Sext_spec 39 t 16 t0 t1 (by decide) (by decide), show (16 : Int) = ((16 : Nat) : Int) from rfl, swap_Sext_spec t 16 t0 t1 (by decide) (by decide)]
    rw [hf]
  rw [hs]
  rfl
theorem known_eq (nm : ByteArray) : ferryref09_Known.f nm = alu_Known.f nm := by
  unfold alu_Known.f
  by_cases h : nm.toList ∈ aluNames
  · rw [decide_eq_true h]
    simp only [aluNames, List.mem_cons, List.not_mem_nil, or_false] at h
    rcases h with h | h | h | h | h | h | h | h | h | h | h | h | h | h | h | h | h | h | h | h | h | h | h | h | h | h | h | h | h | h | h | h | h | h
    · rw [bytes_of h]
      exact rknown_add
    · rw [bytes_of h]
      exact rknown_sub
    · rw [bytes_of h]
      exact rknown_addi
    · rw [bytes_of h]
      exact rknown_addu
    · rw [bytes_of h]
      exact rknown_subu
    · rw [bytes_of h]
      exact rknown_addiu
    · rw [bytes_of h]
      exact rknown_and
    · rw [bytes_of h]
      exact rknown_or
    · rw [bytes_of h]
      exact rknown_xor
    · rw [bytes_of h]
      exact rknown_nor
    · rw [bytes_of h]
      exact rknown_andi
    · rw [bytes_of h]
      exact rknown_ori
    · rw [bytes_of h]
      exact rknown_xori
    · rw [bytes_of h]
      exact rknown_slt
    · rw [bytes_of h]
      exact rknown_sltu
    · rw [bytes_of h]
      exact rknown_slti
    · rw [bytes_of h]
      exact rknown_sltiu
    · rw [bytes_of h]
      exact rknown_lui
    · rw [bytes_of h]
      exact rknown_sll
    · rw [bytes_of h]
      exact rknown_srl
    · rw [bytes_of h]
      exact rknown_sra
    · rw [bytes_of h]
      exact rknown_sllv
    · rw [bytes_of h]
      exact rknown_srlv
    · rw [bytes_of h]
      exact rknown_srav
    · rw [bytes_of h]
      exact rknown_rotr
    · rw [bytes_of h]
      exact rknown_rotrv
    · rw [bytes_of h]
      exact rknown_mul
    · rw [bytes_of h]
      exact rknown_clz
    · rw [bytes_of h]
      exact rknown_clo
    · rw [bytes_of h]
      exact rknown_ext
    · rw [bytes_of h]
      exact rknown_ins
    · rw [bytes_of h]
      exact rknown_wsbh
    · rw [bytes_of h]
      exact rknown_seb
    · rw [bytes_of h]
      exact rknown_seh
  rw [decide_eq_false h]
  simp only [aluNames, List.mem_cons, List.not_mem_nil, or_false, not_or] at h
  obtain ⟨h0, h1, h2, h3, h4, h5, h6, h7, h8, h9, h10, h11, h12, h13, h14, h15, h16, h17, h18, h19, h20, h21, h22, h23, h24, h25, h26, h27, h28, h29, h30, h31, h32, h33⟩ := h
  unfold ferryref09_Known.f
  rw [if_neg h0, if_neg h1, if_neg h2, if_neg h3, if_neg h4, if_neg h5, if_neg h6, if_neg h7, if_neg h8, if_neg h9, if_neg h10, if_neg h11, if_neg h12, if_neg h13, if_neg h14, if_neg h15, if_neg h16, if_neg h17, if_neg h18, if_neg h19, if_neg h20, if_neg h21, if_neg h22, if_neg h23, if_neg h24, if_neg h25, if_neg h26, if_neg h27, if_neg h28, if_neg h29, if_neg h30, if_neg h31, if_neg h32, if_neg h33]
theorem do_false (nm : ByteArray) (x1 x2 d a i s t : Int) (i0 : 0 ≤ i) (i1 : i ≤ 4294967295) (he : dec_Encode.f nm x1 x2 d a i = some (0, false)) :
    alu_Do.f nm x1 x2 d a i s t = some (0, false) ∧ ferryref09_Do.f 40 nm x1 x2 d a i s t = some (0, false) := by
  constructor
  · unfold alu_Do.f
    rw [he, Option.bind_some]
    dsimp only
    rw [if_neg (by decide)]
  · have hen := enc_eq 39 nm ⟨x1, x2, d, a, i⟩ i0 i1
    dsimp only at hen
    unfold ferryref09_Do.f
    rw [hen, he, Option.bind_some]
    dsimp only
    rw [if_neg (by decide)]
theorem do_unknown (nm : ByteArray) (x1 x2 d a i s t v : Int) (i0 : 0 ≤ i) (i1 : i ≤ 4294967295) (he : dec_Encode.f nm x1 x2 d a i = some (v, true)) (hk : ¬ nm.toList ∈ aluNames) :
    alu_Do.f nm x1 x2 d a i s t = some (0, false) ∧ ferryref09_Do.f 40 nm x1 x2 d a i s t = some (0, false) := by
  constructor
  · unfold alu_Do.f
    rw [he, Option.bind_some]
    dsimp only
    rw [if_pos rfl, if_neg hk]
  · have hen := enc_eq 39 nm ⟨x1, x2, d, a, i⟩ i0 i1
    dsimp only at hen
    have hkn : ferryref09_Known.f nm = some false := by
      rw [known_eq]
      unfold alu_Known.f
      rw [decide_eq_false hk]
    unfold ferryref09_Do.f
    rw [hen, he, Option.bind_some]
    dsimp only
    rw [if_pos rfl, hkn, Option.bind_some, if_neg (by decide)]
theorem sound_ins (x1 x2 d a i : Int) (h : soundOf ⟨#[105, 110, 115]⟩ ⟨x1, x2, d, a, i⟩ = true) : a ≤ d := by
  unfold soundOf dec_sound.f at h
  rw [l_ins, if_neg (by decide), if_pos rfl] at h
  exact of_decide_eq_true h
theorem do_same (nm : ByteArray) (x1 x2 d a i s t : Int) (s0 : 0 ≤ s) (s1 : s ≤ 4294967295) (t0 : 0 ≤ t) (t1 : t ≤ 4294967295) (i0 : 0 ≤ i) (i1 : i ≤ 4294967295) : ∃ r : Int × Bool, alu_Do.f nm x1 x2 d a i s t = some r ∧ ferryref09_Do.f 40 nm x1 x2 d a i s t = some r := by
  rcases enc_total nm x1 x2 d a i with he | ⟨v, he⟩
  · exact ⟨_, do_false nm x1 x2 d a i s t i0 i1 he⟩
  · by_cases hk : nm.toList ∈ aluNames
    · obtain ⟨⟨d0, d1⟩, ⟨a0, a1⟩, hs⟩ := enc_true nm x1 x2 d a i v i0 i1 he
      simp only [aluNames, List.mem_cons, List.not_mem_nil, or_false] at hk
      rcases hk with hk | hk | hk | hk | hk | hk | hk | hk | hk | hk | hk | hk | hk | hk | hk | hk | hk | hk | hk | hk | hk | hk | hk | hk | hk | hk | hk | hk | hk | hk | hk | hk | hk | hk
      · obtain rfl := bytes_of hk
        exact ⟨_, aval_add x1 x2 d a i s t v s0 s1 t0 t1 i0 i1 d0 d1 a0 a1 he, rval_add x1 x2 d a i s t v s0 s1 t0 t1 i0 i1 d0 d1 a0 a1 he⟩
      · obtain rfl := bytes_of hk
        exact ⟨_, aval_sub x1 x2 d a i s t v s0 s1 t0 t1 i0 i1 d0 d1 a0 a1 he, rval_sub x1 x2 d a i s t v s0 s1 t0 t1 i0 i1 d0 d1 a0 a1 he⟩
      · obtain rfl := bytes_of hk
        exact ⟨_, aval_addi x1 x2 d a i s t v s0 s1 t0 t1 i0 i1 d0 d1 a0 a1 he, rval_addi x1 x2 d a i s t v s0 s1 t0 t1 i0 i1 d0 d1 a0 a1 he⟩
      · obtain rfl := bytes_of hk
        exact ⟨_, aval_addu x1 x2 d a i s t v s0 s1 t0 t1 i0 i1 d0 d1 a0 a1 he, rval_addu x1 x2 d a i s t v s0 s1 t0 t1 i0 i1 d0 d1 a0 a1 he⟩
      · obtain rfl := bytes_of hk
        exact ⟨_, aval_subu x1 x2 d a i s t v s0 s1 t0 t1 i0 i1 d0 d1 a0 a1 he, rval_subu x1 x2 d a i s t v s0 s1 t0 t1 i0 i1 d0 d1 a0 a1 he⟩
      · obtain rfl := bytes_of hk
        exact ⟨_, aval_addiu x1 x2 d a i s t v s0 s1 t0 t1 i0 i1 d0 d1 a0 a1 he, rval_addiu x1 x2 d a i s t v s0 s1 t0 t1 i0 i1 d0 d1 a0 a1 he⟩
      · obtain rfl := bytes_of hk
        exact ⟨_, aval_and x1 x2 d a i s t v s0 s1 t0 t1 i0 i1 d0 d1 a0 a1 he, rval_and x1 x2 d a i s t v s0 s1 t0 t1 i0 i1 d0 d1 a0 a1 he⟩
      · obtain rfl := bytes_of hk
        exact ⟨_, aval_or x1 x2 d a i s t v s0 s1 t0 t1 i0 i1 d0 d1 a0 a1 he, rval_or x1 x2 d a i s t v s0 s1 t0 t1 i0 i1 d0 d1 a0 a1 he⟩
      · obtain rfl := bytes_of hk
        exact ⟨_, aval_xor x1 x2 d a i s t v s0 s1 t0 t1 i0 i1 d0 d1 a0 a1 he, rval_xor x1 x2 d a i s t v s0 s1 t0 t1 i0 i1 d0 d1 a0 a1 he⟩
      · obtain rfl := bytes_of hk
        exact ⟨_, aval_nor x1 x2 d a i s t v s0 s1 t0 t1 i0 i1 d0 d1 a0 a1 he, rval_nor x1 x2 d a i s t v s0 s1 t0 t1 i0 i1 d0 d1 a0 a1 he⟩
      · obtain rfl := bytes_of hk
        exact ⟨_, aval_andi x1 x2 d a i s t v s0 s1 t0 t1 i0 i1 d0 d1 a0 a1 he, rval_andi x1 x2 d a i s t v s0 s1 t0 t1 i0 i1 d0 d1 a0 a1 he⟩
      · obtain rfl := bytes_of hk
        exact ⟨_, aval_ori x1 x2 d a i s t v s0 s1 t0 t1 i0 i1 d0 d1 a0 a1 he, rval_ori x1 x2 d a i s t v s0 s1 t0 t1 i0 i1 d0 d1 a0 a1 he⟩
      · obtain rfl := bytes_of hk
        exact ⟨_, aval_xori x1 x2 d a i s t v s0 s1 t0 t1 i0 i1 d0 d1 a0 a1 he, rval_xori x1 x2 d a i s t v s0 s1 t0 t1 i0 i1 d0 d1 a0 a1 he⟩
      · obtain rfl := bytes_of hk
        exact ⟨_, aval_slt x1 x2 d a i s t v s0 s1 t0 t1 i0 i1 d0 d1 a0 a1 he, rval_slt x1 x2 d a i s t v s0 s1 t0 t1 i0 i1 d0 d1 a0 a1 he⟩
      · obtain rfl := bytes_of hk
        exact ⟨_, aval_sltu x1 x2 d a i s t v s0 s1 t0 t1 i0 i1 d0 d1 a0 a1 he, rval_sltu x1 x2 d a i s t v s0 s1 t0 t1 i0 i1 d0 d1 a0 a1 he⟩
      · obtain rfl := bytes_of hk
        exact ⟨_, aval_slti x1 x2 d a i s t v s0 s1 t0 t1 i0 i1 d0 d1 a0 a1 he, rval_slti x1 x2 d a i s t v s0 s1 t0 t1 i0 i1 d0 d1 a0 a1 he⟩
      · obtain rfl := bytes_of hk
        exact ⟨_, aval_sltiu x1 x2 d a i s t v s0 s1 t0 t1 i0 i1 d0 d1 a0 a1 he, rval_sltiu x1 x2 d a i s t v s0 s1 t0 t1 i0 i1 d0 d1 a0 a1 he⟩
      · obtain rfl := bytes_of hk
        exact ⟨_, aval_lui x1 x2 d a i s t v s0 s1 t0 t1 i0 i1 d0 d1 a0 a1 he, rval_lui x1 x2 d a i s t v s0 s1 t0 t1 i0 i1 d0 d1 a0 a1 he⟩
      · obtain rfl := bytes_of hk
        exact ⟨_, aval_sll x1 x2 d a i s t v s0 s1 t0 t1 i0 i1 d0 d1 a0 a1 he, rval_sll x1 x2 d a i s t v s0 s1 t0 t1 i0 i1 d0 d1 a0 a1 he⟩
      · obtain rfl := bytes_of hk
        exact ⟨_, aval_srl x1 x2 d a i s t v s0 s1 t0 t1 i0 i1 d0 d1 a0 a1 he, rval_srl x1 x2 d a i s t v s0 s1 t0 t1 i0 i1 d0 d1 a0 a1 he⟩
      · obtain rfl := bytes_of hk
        exact ⟨_, aval_sra x1 x2 d a i s t v s0 s1 t0 t1 i0 i1 d0 d1 a0 a1 he, rval_sra x1 x2 d a i s t v s0 s1 t0 t1 i0 i1 d0 d1 a0 a1 he⟩
      · obtain rfl := bytes_of hk
        exact ⟨_, aval_sllv x1 x2 d a i s t v s0 s1 t0 t1 i0 i1 d0 d1 a0 a1 he, rval_sllv x1 x2 d a i s t v s0 s1 t0 t1 i0 i1 d0 d1 a0 a1 he⟩
      · obtain rfl := bytes_of hk
        exact ⟨_, aval_srlv x1 x2 d a i s t v s0 s1 t0 t1 i0 i1 d0 d1 a0 a1 he, rval_srlv x1 x2 d a i s t v s0 s1 t0 t1 i0 i1 d0 d1 a0 a1 he⟩
      · obtain rfl := bytes_of hk
        exact ⟨_, aval_srav x1 x2 d a i s t v s0 s1 t0 t1 i0 i1 d0 d1 a0 a1 he, rval_srav x1 x2 d a i s t v s0 s1 t0 t1 i0 i1 d0 d1 a0 a1 he⟩
      · obtain rfl := bytes_of hk
        exact ⟨_, aval_rotr x1 x2 d a i s t v s0 s1 t0 t1 i0 i1 d0 d1 a0 a1 he, rval_rotr x1 x2 d a i s t v s0 s1 t0 t1 i0 i1 d0 d1 a0 a1 he⟩
      · obtain rfl := bytes_of hk
        exact ⟨_, aval_rotrv x1 x2 d a i s t v s0 s1 t0 t1 i0 i1 d0 d1 a0 a1 he, rval_rotrv x1 x2 d a i s t v s0 s1 t0 t1 i0 i1 d0 d1 a0 a1 he⟩
      · obtain rfl := bytes_of hk
        exact ⟨_, aval_mul x1 x2 d a i s t v s0 s1 t0 t1 i0 i1 d0 d1 a0 a1 he, rval_mul x1 x2 d a i s t v s0 s1 t0 t1 i0 i1 d0 d1 a0 a1 he⟩
      · obtain rfl := bytes_of hk
        exact ⟨_, aval_clz x1 x2 d a i s t v s0 s1 t0 t1 i0 i1 d0 d1 a0 a1 he, rval_clz x1 x2 d a i s t v s0 s1 t0 t1 i0 i1 d0 d1 a0 a1 he⟩
      · obtain rfl := bytes_of hk
        exact ⟨_, aval_clo x1 x2 d a i s t v s0 s1 t0 t1 i0 i1 d0 d1 a0 a1 he, rval_clo x1 x2 d a i s t v s0 s1 t0 t1 i0 i1 d0 d1 a0 a1 he⟩
      · obtain rfl := bytes_of hk
        exact ⟨_, aval_ext x1 x2 d a i s t v s0 s1 t0 t1 i0 i1 d0 d1 a0 a1 he, rval_ext x1 x2 d a i s t v s0 s1 t0 t1 i0 i1 d0 d1 a0 a1 he⟩
      · obtain rfl := bytes_of hk
        exact ⟨_, aval_ins x1 x2 d a i s t v s0 s1 t0 t1 i0 i1 d0 d1 a0 a1 (sound_ins x1 x2 d a i hs) he, rval_ins x1 x2 d a i s t v s0 s1 t0 t1 i0 i1 d0 d1 a0 a1 (sound_ins x1 x2 d a i hs) he⟩
      · obtain rfl := bytes_of hk
        exact ⟨_, aval_wsbh x1 x2 d a i s t v s0 s1 t0 t1 i0 i1 d0 d1 a0 a1 he, rval_wsbh x1 x2 d a i s t v s0 s1 t0 t1 i0 i1 d0 d1 a0 a1 he⟩
      · obtain rfl := bytes_of hk
        exact ⟨_, aval_seb x1 x2 d a i s t v s0 s1 t0 t1 i0 i1 d0 d1 a0 a1 he, rval_seb x1 x2 d a i s t v s0 s1 t0 t1 i0 i1 d0 d1 a0 a1 he⟩
      · obtain rfl := bytes_of hk
        exact ⟨_, aval_seh x1 x2 d a i s t v s0 s1 t0 t1 i0 i1 d0 d1 a0 a1 he, rval_seh x1 x2 d a i s t v s0 s1 t0 t1 i0 i1 d0 d1 a0 a1 he⟩
    · exact ⟨_, do_unknown nm x1 x2 d a i s t v i0 i1 he hk⟩
theorem traps_same (nm : ByteArray) (s t : Int) (s0 : 0 ≤ s) (s1 : s ≤ 4294967295) (t0 : 0 ≤ t) (t1 : t ≤ 4294967295) : ∃ r, alu_Traps.f nm s t = some r ∧ ferryref09_Traps.f nm s t = some r := by
  unfold alu_Traps.f ferryref09_Traps.f
  rw [ref_less s0 s1 t0 t1]
  by_cases h1 : nm.toList = [116, 103, 101]
  · rw [if_pos h1, if_pos h1]
    refine ⟨_, rfl, ?_⟩
    rw [Option.bind_some]
    congr 1
    by_cases hh : wrap32 s < wrap32 t
    · rw [decide_eq_true hh, decide_eq_false (by omega)]
      rfl
    rw [decide_eq_false hh, decide_eq_true (by omega)]
    rfl
  rw [if_neg h1, if_neg h1]
  by_cases h2 : nm.toList = [116, 103, 101, 117]
  · rw [if_pos h2, if_pos h2]
    exact ⟨_, rfl, rfl⟩
  rw [if_neg h2, if_neg h2]
  by_cases h3 : nm.toList = [116, 108, 116]
  · rw [if_pos h3, if_pos h3]
    exact ⟨_, rfl, rfl⟩
  rw [if_neg h3, if_neg h3]
  by_cases h4 : nm.toList = [116, 108, 116, 117]
  · rw [if_pos h4]
    exact ⟨_, rfl, rfl⟩
  rw [if_neg h4]
  by_cases h5 : nm.toList = [116, 101, 113]
  · rw [if_pos h5]
    exact ⟨_, rfl, rfl⟩
  rw [if_neg h5]
  by_cases h6 : nm.toList = [116, 110, 101]
  · rw [if_pos h6]
    exact ⟨_, rfl, rfl⟩
  rw [if_neg h6]
  exact ⟨_, rfl, rfl⟩
end Go.Proofs.YtnddjndgfaefaaaDoor.F
end
